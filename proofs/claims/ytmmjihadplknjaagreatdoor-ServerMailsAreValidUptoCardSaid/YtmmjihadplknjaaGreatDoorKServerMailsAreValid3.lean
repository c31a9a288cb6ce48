/- Part 3 of the proof of the law ServerMailsAreValid: what it needs. -/
import Derived.Test.YtmmjihadplknjaaGreatDoorKServerMailsAreValid2
import Derived.Test.YtmmjihadplknjaaGreatDoorProg
import Derived.Lib.IndexMore
import Derived.Lib.IndexAny
import Derived.Lib.Atoi
import Derived.Lib.Join
import Derived.Lib.Repeat
import Derived.Lib.Split
import Derived.Lib.FieldsP
import Derived.Lib.Strings
import Derived.Shelf.Strings.SlTrimAscii
import Derived.Laws.RangeAny
set_option linter.unusedVariables false
set_option linter.unusedSimpArgs false
set_option maxRecDepth 100000
set_option maxHeartbeats 40000000
namespace Go.Proofs.YtmmjihadplknjaaGreatDoor
open Go.RowKit
theorem mixed:Tryz.prog.follows .mixedOrders=true:=by kernel_rfl
theorem WGa:CmpOk Tryz.prog 96:=⟨by kernel_rfl,by kernel_rfl⟩
theorem yoa:CmpOk Tryz.prog 30:=⟨by kernel_rfl,by kernel_rfl⟩
theorem Yya (w : World) : Sem.run Tryz.prog (Array.mapM (fun (f : Field) => do pure (f.offset, <- sizeOf f.type)) #[⟨"Verb", 3, 0, false, "", "", 0⟩, ⟨"Name", 9, 1, false, "", "", 8⟩, ⟨"Address", 9, 2, false, "", "", 24⟩, ⟨"Size", 3, 3, false, "", "", 40⟩, ⟨"Notify", 3, 4, false, "", "", 48⟩, ⟨"Last", 4, 5, false, "", "", 56⟩]) w = .ok #[(0, 1), (1, 1), (2, 1), (3, 1), (4, 1), (5, 1)] w := by kernel_rfl
theorem WHa (w : World) : Sem.run Tryz.prog (Array.mapM (fun (f : Field) => do pure (f.offset, <- sizeOf f.type)) #[⟨"From", 9, 0, false, "", "", 0⟩, ⟨"To", 22, 1, false, "", "", 16⟩, ⟨"Id", 9, 2, false, "", "", 40⟩]) w = .ok #[(0, 1), (1, 1), (2, 1)] w := by kernel_rfl
theorem zZb (w : World) : Sem.run Tryz.prog (Array.mapM (fun (f : Field) => do pure (f.offset, <- sizeOf f.type)) #[⟨"Code", 3, 0, false, "", "", 0⟩, ⟨"Index", 3, 1, false, "", "", 8⟩]) w = .ok #[(0, 1), (1, 1)] w := by kernel_rfl
theorem z0b (w : World) : Sem.run Tryz.prog (Array.mapM (fun (f : Field) => do pure (f.offset, <- sizeOf f.type)) #[⟨"Name", 9, 0, false, "", "", 0⟩, ⟨"Value", 9, 1, false, "", "", 16⟩]) w = .ok #[(0, 1), (1, 1)] w := by kernel_rfl
theorem qqb (w : World) : Sem.run Tryz.prog (Array.mapM (fun (f : Field) => do pure (f.offset, <- sizeOf f.type)) #[⟨"Envelope", 51, 0, false, "", "", 0⟩, ⟨"Message", 54, 3, false, "", "", 56⟩]) w = .ok #[(0, 3), (3, 2)] w := by kernel_rfl
theorem Yza (w : World) : Sem.run Tryz.prog (Array.mapM (fun (f : Field) => do pure (f.offset, <- sizeOf f.type)) #[⟨"Fields", 52, 0, false, "", "", 0⟩, ⟨"Body", 23, 1, false, "", "", 24⟩]) w = .ok #[(0, 1), (1, 1)] w := by kernel_rfl
theorem VSa (w : World) : Sem.run Tryz.prog (Array.mapM (fun (f : Field) => do pure (f.offset, <- sizeOf f.type)) #[⟨"Address", 9, 0, false, "", "", 0⟩, ⟨"Notify", 3, 1, false, "", "", 16⟩]) w = .ok #[(0, 1), (1, 1)] w := by kernel_rfl
theorem z1b (w : World) : Sem.run Tryz.prog (Array.mapM (fun (f : Field) => do pure (f.offset, <- sizeOf f.type)) #[⟨"Code", 3, 0, false, "", "", 0⟩, ⟨"Lines", 26, 1, false, "", "", 8⟩]) w = .ok #[(0, 1), (1, 1)] w := by kernel_rfl
theorem J1a (w : World) : Sem.run Tryz.prog (Array.mapM (fun (f : Field) => do pure (f.offset, <- sizeOf f.type)) #[⟨"Name", 9, 0, false, "", "", 0⟩, ⟨"Size", 3, 1, false, "", "", 16⟩, ⟨"Many", 3, 2, false, "", "", 24⟩, ⟨"Phase", 3, 3, false, "", "", 32⟩, ⟨"Greeted", 4, 4, false, "", "", 40⟩, ⟨"Mailing", 4, 5, false, "", "", 41⟩, ⟨"From", 9, 6, false, "", "", 48⟩, ⟨"To", 22, 7, false, "", "", 64⟩, ⟨"Buffer", 23, 8, false, "", "", 88⟩, ⟨"Data", 23, 9, false, "", "", 112⟩, ⟨"Lost", 3, 10, false, "", "", 136⟩, ⟨"Dots", 3, 11, false, "", "", 144⟩, ⟨"Chunked", 4, 12, false, "", "", 152⟩, ⟨"Left", 3, 13, false, "", "", 160⟩, ⟨"Last", 4, 14, false, "", "", 168⟩, ⟨"Ignore", 4, 15, false, "", "", 169⟩, ⟨"Count", 3, 16, false, "", "", 176⟩]) w = .ok #[(0, 1), (1, 1), (2, 1), (3, 1), (4, 1), (5, 1), (6, 1), (7, 1), (8, 1), (9, 1), (10, 1), (11, 1), (12, 1), (13, 1), (14, 1), (15, 1), (16, 1)] w := by kernel_rfl
theorem Kva (w : World) : Sem.run Tryz.prog (Array.mapM (fun (f : Field) => do pure (f.offset, <- sizeOf f.type)) #[⟨"n", 3, 0, false, "", "posthouse/command", 0⟩, ⟨"word", 9, 1, false, "", "posthouse/command", 8⟩]) w = .ok #[(0, 1), (1, 1)] w := by kernel_rfl
theorem Q4a (w : World) : Sem.run Tryz.prog (Array.mapM (fun (f : Field) => do pure (f.offset, <- sizeOf f.type)) #[⟨"Server", 25, 0, true, "", "", 0⟩, ⟨"replies", 37, 17, false, "", "posthouse/server", 184⟩, ⟨"mails", 38, 18, false, "", "posthouse/server", 208⟩]) w = .ok #[(0, 17), (17, 1), (18, 1)] w := by kernel_rfl
theorem qya:TyOk Tryz.prog 211 6 72 (.agg #[.int .i64 0,.string ⟨#[]⟩,.int .i64 0,.string ⟨#[]⟩,.int .i64 0,.string ⟨#[]⟩]) (.array 3 210):=⟨by kernel_rfl,by kernel_rfl⟩
theorem ZMa:TyOk Tryz.prog 121 8 128 (.agg #[.string ⟨#[]⟩,.string ⟨#[]⟩,.string ⟨#[]⟩,.string ⟨#[]⟩,.string ⟨#[]⟩,.string ⟨#[]⟩,.string ⟨#[]⟩,.string ⟨#[]⟩]) (.array 8 9):=⟨by kernel_rfl,by kernel_rfl⟩
theorem KJa : TyOk Tryz.prog 96 6 64 (.agg #[.int .i64 0, .string ⟨#[]⟩, .string ⟨#[]⟩, .int .i64 0, .int .i64 0, .bool false]) (.struct #[⟨"Verb", 3, 0, false, "", "", 0⟩, ⟨"Name", 9, 1, false, "", "", 8⟩, ⟨"Address", 9, 2, false, "", "", 24⟩, ⟨"Size", 3, 3, false, "", "", 40⟩, ⟨"Notify", 3, 4, false, "", "", 48⟩, ⟨"Last", 4, 5, false, "", "", 56⟩]) := ⟨by kernel_rfl, by kernel_rfl⟩
theorem WIa : TyOk Tryz.prog 51 3 56 (.agg #[.string ⟨#[]⟩, .slice none 0 0, .string ⟨#[]⟩]) (.struct #[⟨"From", 9, 0, false, "", "", 0⟩, ⟨"To", 22, 1, false, "", "", 16⟩, ⟨"Id", 9, 2, false, "", "", 40⟩]) := ⟨by kernel_rfl, by kernel_rfl⟩
theorem kBa : TyOk Tryz.prog 30 2 16 (.agg #[.int .i64 0, .int .i64 0]) (.struct #[⟨"Code", 3, 0, false, "", "", 0⟩, ⟨"Index", 3, 1, false, "", "", 8⟩]) := ⟨by kernel_rfl, by kernel_rfl⟩
theorem z2b : TyOk Tryz.prog 87 2 32 (.agg #[.string ⟨#[]⟩, .string ⟨#[]⟩]) (.struct #[⟨"Name", 9, 0, false, "", "", 0⟩, ⟨"Value", 9, 1, false, "", "", 16⟩]) := ⟨by kernel_rfl, by kernel_rfl⟩
theorem qza : TyOk Tryz.prog 56 5 104 (.agg #[.string ⟨#[]⟩, .slice none 0 0, .string ⟨#[]⟩, .slice none 0 0, .slice none 0 0]) (.struct #[⟨"Envelope", 51, 0, false, "", "", 0⟩, ⟨"Message", 54, 3, false, "", "", 56⟩]) := ⟨by kernel_rfl, by kernel_rfl⟩
theorem qKa : TyOk Tryz.prog 54 2 48 (.agg #[.slice none 0 0, .slice none 0 0]) (.struct #[⟨"Fields", 52, 0, false, "", "", 0⟩, ⟨"Body", 23, 1, false, "", "", 24⟩]) := ⟨by kernel_rfl, by kernel_rfl⟩
theorem zDa : TyOk Tryz.prog 60 2 24 (.agg #[.string ⟨#[]⟩, .int .i64 0]) (.struct #[⟨"Address", 9, 0, false, "", "", 0⟩, ⟨"Notify", 3, 1, false, "", "", 16⟩]) := ⟨by kernel_rfl, by kernel_rfl⟩
theorem q1a : TyOk Tryz.prog 28 2 32 (.agg #[.int .i64 0, .slice none 0 0]) (.struct #[⟨"Code", 3, 0, false, "", "", 0⟩, ⟨"Lines", 26, 1, false, "", "", 8⟩]) := ⟨by kernel_rfl, by kernel_rfl⟩
theorem ypa : TyOk Tryz.prog 25 17 184 (.agg #[.string ⟨#[]⟩, .int .i64 0, .int .i64 0, .int .i64 0, .bool false, .bool false, .string ⟨#[]⟩, .slice none 0 0, .slice none 0 0, .slice none 0 0, .int .i64 0, .int .i64 0, .bool false, .int .i64 0, .bool false, .bool false, .int .i64 0]) (.struct #[⟨"Name", 9, 0, false, "", "", 0⟩, ⟨"Size", 3, 1, false, "", "", 16⟩, ⟨"Many", 3, 2, false, "", "", 24⟩, ⟨"Phase", 3, 3, false, "", "", 32⟩, ⟨"Greeted", 4, 4, false, "", "", 40⟩, ⟨"Mailing", 4, 5, false, "", "", 41⟩, ⟨"From", 9, 6, false, "", "", 48⟩, ⟨"To", 22, 7, false, "", "", 64⟩, ⟨"Buffer", 23, 8, false, "", "", 88⟩, ⟨"Data", 23, 9, false, "", "", 112⟩, ⟨"Lost", 3, 10, false, "", "", 136⟩, ⟨"Dots", 3, 11, false, "", "", 144⟩, ⟨"Chunked", 4, 12, false, "", "", 152⟩, ⟨"Left", 3, 13, false, "", "", 160⟩, ⟨"Last", 4, 14, false, "", "", 168⟩, ⟨"Ignore", 4, 15, false, "", "", 169⟩, ⟨"Count", 3, 16, false, "", "", 176⟩]) := ⟨by kernel_rfl, by kernel_rfl⟩
theorem WJa:TyOk Tryz.prog 4 1 1 (.bool false) .bool:=⟨by kernel_rfl,by kernel_rfl⟩
theorem vpa : TyOk Tryz.prog 210 2 24 (.agg #[.int .i64 0, .string ⟨#[]⟩]) (.struct #[⟨"n", 3, 0, false, "", "posthouse/command", 0⟩, ⟨"word", 9, 1, false, "", "posthouse/command", 8⟩]) := ⟨by kernel_rfl, by kernel_rfl⟩
theorem veb : TyOk Tryz.prog 206 1 16 (.nilIface) (.interface #[("Error", 228)]) := ⟨by kernel_rfl, by kernel_rfl⟩
theorem wia:TyOk Tryz.prog 3 1 8 (.int .i64 0) (.int .i64):=⟨by kernel_rfl,by kernel_rfl⟩
theorem ty_int32:TyOk Tryz.prog 21 1 4 (.int .i32 0) (.int .i32):=⟨by kernel_rfl,by kernel_rfl⟩
theorem wta:TyOk Tryz.prog 170 1 8 (.map none) (.map 9 3):=⟨by kernel_rfl,by kernel_rfl⟩
theorem KXa:TyOk Tryz.prog 75 1 8 (.pointer none) (.pointer 77):=⟨by kernel_rfl,by kernel_rfl⟩
theorem jJa : TyOk Tryz.prog 44 19 232 (.agg #[.string ⟨#[]⟩, .int .i64 0, .int .i64 0, .int .i64 0, .bool false, .bool false, .string ⟨#[]⟩, .slice none 0 0, .slice none 0 0, .slice none 0 0, .int .i64 0, .int .i64 0, .bool false, .int .i64 0, .bool false, .bool false, .int .i64 0, .slice none 0 0, .slice none 0 0]) (.struct #[⟨"S", 25, 0, false, "", "", 0⟩, ⟨"Replies", 37, 17, false, "", "", 184⟩, ⟨"Mails", 38, 18, false, "", "", 208⟩]) := ⟨by kernel_rfl, by kernel_rfl⟩
theorem YAa:TyOk Tryz.prog 52 1 24 (.slice none 0 0) (.slice 87):=⟨by kernel_rfl,by kernel_rfl⟩
theorem kNa:TyOk Tryz.prog 38 1 24 (.slice none 0 0) (.slice 56):=⟨by kernel_rfl,by kernel_rfl⟩
theorem zsa:TyOk Tryz.prog 22 1 24 (.slice none 0 0) (.slice 60):=⟨by kernel_rfl,by kernel_rfl⟩
theorem qba:TyOk Tryz.prog 37 1 24 (.slice none 0 0) (.slice 28):=⟨by kernel_rfl,by kernel_rfl⟩
theorem ty_s_int:TyOk Tryz.prog 129 1 24 (.slice none 0 0) (.slice 3):=⟨by kernel_rfl,by kernel_rfl⟩
theorem vJa:TyOk Tryz.prog 26 1 24 (.slice none 0 0) (.slice 9):=⟨by kernel_rfl,by kernel_rfl⟩
theorem zpa:TyOk Tryz.prog 23 1 24 (.slice none 0 0) (.slice 5):=⟨by kernel_rfl,by kernel_rfl⟩
theorem Q5a : TyOk Tryz.prog 77 19 232 (.agg #[.string ⟨#[]⟩, .int .i64 0, .int .i64 0, .int .i64 0, .bool false, .bool false, .string ⟨#[]⟩, .slice none 0 0, .slice none 0 0, .slice none 0 0, .int .i64 0, .int .i64 0, .bool false, .int .i64 0, .bool false, .bool false, .int .i64 0, .slice none 0 0, .slice none 0 0]) (.struct #[⟨"Server", 25, 0, true, "", "", 0⟩, ⟨"replies", 37, 17, false, "", "posthouse/server", 184⟩, ⟨"mails", 38, 18, false, "", "posthouse/server", 208⟩]) := ⟨by kernel_rfl, by kernel_rfl⟩
theorem zHa:TyOk Tryz.prog 9 1 16 (.string ⟨#[]⟩) .string:=⟨by kernel_rfl,by kernel_rfl⟩
theorem zJa:TyOk Tryz.prog 5 1 1 (.int .u8 0) (.int .u8):=⟨by kernel_rfl,by kernel_rfl⟩
def tab : Tab := [(211, ⟨6, 72, (.agg #[.int .i64 0, .string ⟨#[]⟩, .int .i64 0, .string ⟨#[]⟩, .int .i64 0, .string ⟨#[]⟩]), (.array 3 210), none⟩), (121, ⟨8, 128, (.agg #[.string ⟨#[]⟩, .string ⟨#[]⟩, .string ⟨#[]⟩, .string ⟨#[]⟩, .string ⟨#[]⟩, .string ⟨#[]⟩, .string ⟨#[]⟩, .string ⟨#[]⟩]), (.array 8 9), none⟩), (96, ⟨6, 64, (.agg #[.int .i64 0, .string ⟨#[]⟩, .string ⟨#[]⟩, .int .i64 0, .int .i64 0, .bool false]), (.struct #[⟨"Verb", 3, 0, false, "", "", 0⟩, ⟨"Name", 9, 1, false, "", "", 8⟩, ⟨"Address", 9, 2, false, "", "", 24⟩, ⟨"Size", 3, 3, false, "", "", 40⟩, ⟨"Notify", 3, 4, false, "", "", 48⟩, ⟨"Last", 4, 5, false, "", "", 56⟩]), (some #[(0, 1), (1, 1), (2, 1), (3, 1), (4, 1), (5, 1)])⟩), (51, ⟨3, 56, (.agg #[.string ⟨#[]⟩, .slice none 0 0, .string ⟨#[]⟩]), (.struct #[⟨"From", 9, 0, false, "", "", 0⟩, ⟨"To", 22, 1, false, "", "", 16⟩, ⟨"Id", 9, 2, false, "", "", 40⟩]), (some #[(0, 1), (1, 1), (2, 1)])⟩), (30, ⟨2, 16, (.agg #[.int .i64 0, .int .i64 0]), (.struct #[⟨"Code", 3, 0, false, "", "", 0⟩, ⟨"Index", 3, 1, false, "", "", 8⟩]), (some #[(0, 1), (1, 1)])⟩), (87, ⟨2, 32, (.agg #[.string ⟨#[]⟩, .string ⟨#[]⟩]), (.struct #[⟨"Name", 9, 0, false, "", "", 0⟩, ⟨"Value", 9, 1, false, "", "", 16⟩]), (some #[(0, 1), (1, 1)])⟩), (56, ⟨5, 104, (.agg #[.string ⟨#[]⟩, .slice none 0 0, .string ⟨#[]⟩, .slice none 0 0, .slice none 0 0]), (.struct #[⟨"Envelope", 51, 0, false, "", "", 0⟩, ⟨"Message", 54, 3, false, "", "", 56⟩]), (some #[(0, 3), (3, 2)])⟩), (54, ⟨2, 48, (.agg #[.slice none 0 0, .slice none 0 0]), (.struct #[⟨"Fields", 52, 0, false, "", "", 0⟩, ⟨"Body", 23, 1, false, "", "", 24⟩]), (some #[(0, 1), (1, 1)])⟩), (60, ⟨2, 24, (.agg #[.string ⟨#[]⟩, .int .i64 0]), (.struct #[⟨"Address", 9, 0, false, "", "", 0⟩, ⟨"Notify", 3, 1, false, "", "", 16⟩]), (some #[(0, 1), (1, 1)])⟩), (28, ⟨2, 32, (.agg #[.int .i64 0, .slice none 0 0]), (.struct #[⟨"Code", 3, 0, false, "", "", 0⟩, ⟨"Lines", 26, 1, false, "", "", 8⟩]), (some #[(0, 1), (1, 1)])⟩), (25, ⟨17, 184, (.agg #[.string ⟨#[]⟩, .int .i64 0, .int .i64 0, .int .i64 0, .bool false, .bool false, .string ⟨#[]⟩, .slice none 0 0, .slice none 0 0, .slice none 0 0, .int .i64 0, .int .i64 0, .bool false, .int .i64 0, .bool false, .bool false, .int .i64 0]), (.struct #[⟨"Name", 9, 0, false, "", "", 0⟩, ⟨"Size", 3, 1, false, "", "", 16⟩, ⟨"Many", 3, 2, false, "", "", 24⟩, ⟨"Phase", 3, 3, false, "", "", 32⟩, ⟨"Greeted", 4, 4, false, "", "", 40⟩, ⟨"Mailing", 4, 5, false, "", "", 41⟩, ⟨"From", 9, 6, false, "", "", 48⟩, ⟨"To", 22, 7, false, "", "", 64⟩, ⟨"Buffer", 23, 8, false, "", "", 88⟩, ⟨"Data", 23, 9, false, "", "", 112⟩, ⟨"Lost", 3, 10, false, "", "", 136⟩, ⟨"Dots", 3, 11, false, "", "", 144⟩, ⟨"Chunked", 4, 12, false, "", "", 152⟩, ⟨"Left", 3, 13, false, "", "", 160⟩, ⟨"Last", 4, 14, false, "", "", 168⟩, ⟨"Ignore", 4, 15, false, "", "", 169⟩, ⟨"Count", 3, 16, false, "", "", 176⟩]), (some #[(0, 1), (1, 1), (2, 1), (3, 1), (4, 1), (5, 1), (6, 1), (7, 1), (8, 1), (9, 1), (10, 1), (11, 1), (12, 1), (13, 1), (14, 1), (15, 1), (16, 1)])⟩), (4, ⟨1, 1, (.bool false), .bool, none⟩), (210, ⟨2, 24, (.agg #[.int .i64 0, .string ⟨#[]⟩]), (.struct #[⟨"n", 3, 0, false, "", "posthouse/command", 0⟩, ⟨"word", 9, 1, false, "", "posthouse/command", 8⟩]), (some #[(0, 1), (1, 1)])⟩), (206, ⟨1, 16, (.nilIface), (.interface #[("Error", 228)]), none⟩), (3, ⟨1, 8, (.int .i64 0), (.int .i64), none⟩), (21, ⟨1, 4, (.int .i32 0), (.int .i32), none⟩), (170, ⟨1, 8, (.map none), (.map 9 3), none⟩), (75, ⟨1, 8, (.pointer none), (.pointer 77), none⟩), (44, ⟨19, 232, (.agg #[.string ⟨#[]⟩, .int .i64 0, .int .i64 0, .int .i64 0, .bool false, .bool false, .string ⟨#[]⟩, .slice none 0 0, .slice none 0 0, .slice none 0 0, .int .i64 0, .int .i64 0, .bool false, .int .i64 0, .bool false, .bool false, .int .i64 0, .slice none 0 0, .slice none 0 0]), (.struct #[⟨"S", 25, 0, false, "", "", 0⟩, ⟨"Replies", 37, 17, false, "", "", 184⟩, ⟨"Mails", 38, 18, false, "", "", 208⟩]), none⟩), (52, ⟨1, 24, (.slice none 0 0), (.slice 87), none⟩), (38, ⟨1, 24, (.slice none 0 0), (.slice 56), none⟩), (22, ⟨1, 24, (.slice none 0 0), (.slice 60), none⟩), (37, ⟨1, 24, (.slice none 0 0), (.slice 28), none⟩), (129, ⟨1, 24, (.slice none 0 0), (.slice 3), none⟩), (26, ⟨1, 24, (.slice none 0 0), (.slice 9), none⟩), (23, ⟨1, 24, (.slice none 0 0), (.slice 5), none⟩), (77, ⟨19, 232, (.agg #[.string ⟨#[]⟩, .int .i64 0, .int .i64 0, .int .i64 0, .bool false, .bool false, .string ⟨#[]⟩, .slice none 0 0, .slice none 0 0, .slice none 0 0, .int .i64 0, .int .i64 0, .bool false, .int .i64 0, .bool false, .bool false, .int .i64 0, .slice none 0 0, .slice none 0 0]), (.struct #[⟨"Server", 25, 0, true, "", "", 0⟩, ⟨"replies", 37, 17, false, "", "posthouse/server", 184⟩, ⟨"mails", 38, 18, false, "", "posthouse/server", 208⟩]), (some #[(0, 17), (17, 1), (18, 1)])⟩), (9, ⟨1, 16, (.string ⟨#[]⟩), .string, none⟩), (5, ⟨1, 1, (.int .u8 0), (.int .u8), none⟩)]
theorem tk:kRa Tryz.prog tab:=(k0a qya (k0a ZMa (qZa KJa Yya (qZa WIa WHa (qZa kBa zZb (qZa z2b z0b (qZa qza qqb (qZa qKa Yza (qZa zDa VSa (qZa q1a z1b (qZa ypa J1a (k0a WJa (qZa vpa Kva (k0a veb (k0a wia (k0a ty_int32 (k0a wta (k0a KXa (k0a jJa (k0a YAa (k0a kNa (k0a zsa (k0a qba (k0a ty_s_int (k0a vJa (k0a zpa (qZa Q5a Q4a (k0a zHa (k0a zJa tab_nil)))))))))))))))))))))))))))))
def zra.ok(x:zra):Prop:=ok64 x.Code/\ok64 x.Index
def zra.bk(x:zra):Nat:=(fun _=>1) x.Code+(fun _=>1) x.Index+1
instance:Inhabited zra:=⟨⟨default,default⟩⟩
def yEa.ok(x:yEa):Prop:=yna x.Address/\(okL yna) x.To
def yEa.bk(x:yEa):Nat:=(fun s=>s.length+1) x.Address+(bkL (fun s=>s.length+1)) x.To+1
instance:Inhabited yEa:=⟨⟨default,default⟩⟩
def zca.ok(x:zca):Prop:=yna x.Address/\ok64 x.Notify
def zca.bk(x:zca):Nat:=(fun s=>s.length+1) x.Address+(fun _=>1) x.Notify+1
instance:Inhabited zca:=⟨⟨default,default⟩⟩
def kaa.ok(x:kaa):Prop:=yna x.From/\(okL zca.ok) x.To/\yna x.Id
def kaa.bk(x:kaa):Nat:=(fun s=>s.length+1) x.From+(bkL zca.bk) x.To+(fun s=>s.length+1) x.Id+1
instance:Inhabited kaa:=⟨⟨default,default,default⟩⟩
def zia.ok(x:zia):Prop:=yna x.Name/\yna x.Value
def zia.bk(x:zia):Nat:=(fun s=>s.length+1) x.Name+(fun s=>s.length+1) x.Value+1
instance:Inhabited zia:=⟨⟨default,default⟩⟩
def zxa.ok(x:zxa):Prop:=(okL zia.ok) x.Fields/\(okL (fun _=>True)) x.Body
def zxa.bk(x:zxa):Nat:=(bkL zia.bk) x.Fields+(bkL (fun _=>1)) x.Body+1
instance:Inhabited zxa:=⟨⟨default,default⟩⟩
def zwa.ok(x:zwa):Prop:=kaa.ok x.Envelope/\zxa.ok x.Message
def zwa.bk(x:zwa):Nat:=kaa.bk x.Envelope+zxa.bk x.Message+1
instance:Inhabited zwa:=⟨⟨default,default⟩⟩
def j5a.ok(x:j5a):Prop:=yna x.Address/\(okL yna) x.To/\(fun _=>True) x.Keep
def j5a.bk(x:j5a):Nat:=(fun s=>s.length+1) x.Address+(bkL (fun s=>s.length+1)) x.To+(fun _=>1) x.Keep+1
instance:Inhabited j5a:=⟨⟨default,default,default⟩⟩
def WEa.ok(x:WEa):Prop:=ok64 x.Number/\zwa.ok x.Mail
def WEa.bk(x:WEa):Nat:=(fun _=>1) x.Number+zwa.bk x.Mail+1
instance:Inhabited WEa:=⟨⟨default,default⟩⟩
def qob.ok(x:qob):Prop:=yna x.Address/\yna x.Owner/\(fun _=>True) x.Open/\(okL yna) x.Subscribers/\(okL yna) x.Moderators/\(okL WEa.ok) x.Held/\ok64 x.Next
def qob.bk(x:qob):Nat:=(fun s=>s.length+1) x.Address+(fun s=>s.length+1) x.Owner+(fun _=>1) x.Open+(bkL (fun s=>s.length+1)) x.Subscribers+(bkL (fun s=>s.length+1)) x.Moderators+(bkL WEa.bk) x.Held+(fun _=>1) x.Next+1
instance:Inhabited qob:=⟨⟨default,default,default,default,default,default,default⟩⟩
def zna.ok(x:zna):Prop:=ok64 x.Code/\(okL yna) x.Lines
def zna.bk(x:zna):Nat:=(fun _=>1) x.Code+(bkL (fun s=>s.length+1)) x.Lines+1
instance:Inhabited zna:=⟨⟨default,default⟩⟩
def qpb.ok(x:qpb):Prop:=ok64 x.Year/\ok64 x.Month/\ok64 x.Day/\ok64 x.Hour/\ok64 x.Minute/\ok64 x.Second/\ok64 x.Zone
def qpb.bk(x:qpb):Nat:=(fun _=>1) x.Year+(fun _=>1) x.Month+(fun _=>1) x.Day+(fun _=>1) x.Hour+(fun _=>1) x.Minute+(fun _=>1) x.Second+(fun _=>1) x.Zone+1
instance:Inhabited qpb:=⟨⟨default,default,default,default,default,default,default⟩⟩
def zla.ok(x:zla):Prop:=ok64 x.Verb/\yna x.Name/\yna x.Address/\ok64 x.Size/\ok64 x.Notify/\(fun _=>True) x.Last
def zla.bk(x:zla):Nat:=(fun _=>1) x.Verb+(fun s=>s.length+1) x.Name+(fun s=>s.length+1) x.Address+(fun _=>1) x.Size+(fun _=>1) x.Notify+(fun _=>1) x.Last+1
instance:Inhabited zla:=⟨⟨default,default,default,default,default,default⟩⟩
def zka.ok(x:zka):Prop:=ok64 x.n/\yna x.word
def zka.bk(x:zka):Nat:=(fun _=>1) x.n+(fun s=>s.length+1) x.word+1
instance:Inhabited zka:=⟨⟨default,default⟩⟩
def WFa.ok(x:WFa):Prop:=yna x.Address/\ok64 x.Result
def WFa.bk(x:WFa):Nat:=(fun s=>s.length+1) x.Address+(fun _=>1) x.Result+1
instance:Inhabited WFa:=⟨⟨default,default⟩⟩
def KWa.ok(x:KWa):Prop:=ok64 x.Kind/\yna x.Id/\(okL WFa.ok) x.Told
def KWa.bk(x:KWa):Nat:=(fun _=>1) x.Kind+(fun s=>s.length+1) x.Id+(bkL WFa.bk) x.Told+1
instance:Inhabited KWa:=⟨⟨default,default,default⟩⟩
def vIa.ok(x:vIa):Prop:=ok64 x.kind/\ok64 x.result
def vIa.bk(x:vIa):Nat:=(fun _=>1) x.kind+(fun _=>1) x.result+1
instance:Inhabited vIa:=⟨⟨default,default⟩⟩
def wsa.ok(x:wsa):Prop:=yna x.Name/\zwa.ok x.Mail/\(fun _=>True) x.Pipelined/\(okL (fun _=>True)) x.Buffer/\ok64 x.Expected/\(fun _=>True) x.Whole/\(fun _=>True) x.Done/\(okL ok64) x.Results
def wsa.bk(x:wsa):Nat:=(fun s=>s.length+1) x.Name+zwa.bk x.Mail+(fun _=>1) x.Pipelined+(bkL (fun _=>1)) x.Buffer+(fun _=>1) x.Expected+(fun _=>1) x.Whole+(fun _=>1) x.Done+(bkL (fun _=>1)) x.Results+1
instance:Inhabited wsa:=⟨⟨default,default,default,default,default,default,default,default⟩⟩
def kUa.ok(x:kUa):Prop:=wsa.ok x.Client/\(okL (fun _=>True)) x.content/\(fun _=>True) x.chunk/\(okL (fun _=>True)) x.out
def kUa.bk(x:kUa):Nat:=wsa.bk x.Client+(bkL (fun _=>1)) x.content+(fun _=>1) x.chunk+(bkL (fun _=>1)) x.out+1
instance:Inhabited kUa:=⟨⟨default,default,default,default⟩⟩
def kea.ok(x:kea):Prop:=wsa.ok x.C/\(okL (fun _=>True)) x.Out
def kea.bk(x:kea):Nat:=wsa.bk x.C+(bkL (fun _=>1)) x.Out+1
instance:Inhabited kea:=⟨⟨default,default⟩⟩
def zha.ok(x:zha):Prop:=yna x.Name/\ok64 x.Size/\ok64 x.Many/\ok64 x.Phase/\(fun _=>True) x.Greeted/\(fun _=>True) x.Mailing/\yna x.From/\(okL zca.ok) x.To/\(okL (fun _=>True)) x.Buffer/\(okL (fun _=>True)) x.Data/\ok64 x.Lost/\ok64 x.Dots/\(fun _=>True) x.Chunked/\ok64 x.Left/\(fun _=>True) x.Last/\(fun _=>True) x.Ignore/\ok64 x.Count
def zha.bk(x:zha):Nat:=(fun s=>s.length+1) x.Name+(fun _=>1) x.Size+(fun _=>1) x.Many+(fun _=>1) x.Phase+(fun _=>1) x.Greeted+(fun _=>1) x.Mailing+(fun s=>s.length+1) x.From+(bkL zca.bk) x.To+(bkL (fun _=>1)) x.Buffer+(bkL (fun _=>1)) x.Data+(fun _=>1) x.Lost+(fun _=>1) x.Dots+(fun _=>1) x.Chunked+(fun _=>1) x.Left+(fun _=>1) x.Last+(fun _=>1) x.Ignore+(fun _=>1) x.Count+1
instance:Inhabited zha:=⟨⟨default,default,default,default,default,default,default,default,default,default,default,default,default,default,default,default,default⟩⟩
def zea.ok(x:zea):Prop:=zha.ok x.Server/\(okL zna.ok) x.replies/\(okL zwa.ok) x.mails
def zea.bk(x:zea):Nat:=zha.bk x.Server+(bkL zna.bk) x.replies+(bkL zwa.bk) x.mails+1
instance:Inhabited zea:=⟨⟨default,default,default⟩⟩
def zda.ok(x:zda):Prop:=zha.ok x.S/\(okL zna.ok) x.Replies/\(okL zwa.ok) x.Mails
def zda.bk(x:zda):Nat:=zha.bk x.S+(bkL zna.bk) x.Replies+(bkL zwa.bk) x.Mails+1
instance:Inhabited zda:=⟨⟨default,default,default⟩⟩
theorem jKa:Kua Tryz.prog 9 1 cS yna (fun s=>s.length+1):=opens_S zHa.u (by kernel_rfl)
theorem yia:Kua Tryz.prog 3 1 cI ok64 (fun _=>1):=opens_I wia.u (by kernel_rfl)
theorem jta:Kua Tryz.prog 4 1 cB (fun _=>True) (fun _=>1):=opens_B WJa.u (by kernel_rfl)
theorem VTa:Kua Tryz.prog 60 2 zca.pc zca.ok zca.bk:=⟨by kernel_rfl,fun _=>rfl,fun {H enc W fuel cs d} h=>by
 obtain ⟨xs,n,_,rfl,hl,hlen,hf⟩:=DataW.trod_struct zDa.u h;have hl2:cs.length=2:=hl.trans (by kernel_rfl)
 match xs,hlen with
 | [y0,y1],_=>
  obtain ⟨x0,r0,o0,b0⟩:=jKa.op (show _=some y0 from hf 0 _ rfl)
  replace r0:RelC W _ (List.take (Tryz.prog.cellsOf 9) (List.drop 0 cs)):=r0
  rw[jKa.cells]at r0;obtain ⟨x1,r1,o1,b1⟩:=yia.op (show _=some y1 from hf 1 _ rfl)
  replace r1:RelC W _ (List.take (Tryz.prog.cellsOf 3) (List.drop 1 cs)):=r1
  rw[yia.cells]at r1;exact ⟨⟨x0,x1⟩,(kMa (off:=0) rfl r0 (kMa (off:=1) rfl r1 (q8b hl2))),⟨o0,o1⟩,by simp only[List.map,Rows.uptoBulk,Rows.uptoBulkAll,zca.bk];omega⟩⟩
theorem jba:Kua Tryz.prog 22 1 (cL zca.pc) (okL zca.ok) (bkL zca.bk):=yvb VTa rfl zsa.u (by kernel_rfl)
theorem op_uint8:Kua Tryz.prog 5 1 cU (fun _=>True) (fun _=>1):=opens_U zJa.u (by kernel_rfl)
theorem jLa:Kua Tryz.prog 23 1 (cL cU) (okL (fun _=>True)) (bkL (fun _=>1)):=yvb op_uint8 rfl zpa.u (by kernel_rfl)
theorem J2a:Kua Tryz.prog 25 17 zha.pc zha.ok zha.bk:=⟨by kernel_rfl,fun _=>rfl,fun {H enc W fuel cs d} h=>by
 obtain ⟨xs,n,_,rfl,hl,hlen,hf⟩:=DataW.trod_struct ypa.u h;have hl2:cs.length=17:=hl.trans (by kernel_rfl)
 match xs,hlen with
 | [y0,y1,y2,y3,y4,y5,y6,y7,y8,y9,y10,y11,y12,y13,y14,y15,y16],_=>
  obtain ⟨x0,r0,o0,b0⟩:=jKa.op (show _=some y0 from hf 0 _ rfl)
  replace r0:RelC W _ (List.take (Tryz.prog.cellsOf 9) (List.drop 0 cs)):=r0
  rw[jKa.cells]at r0;obtain ⟨x1,r1,o1,b1⟩:=yia.op (show _=some y1 from hf 1 _ rfl)
  replace r1:RelC W _ (List.take (Tryz.prog.cellsOf 3) (List.drop 1 cs)):=r1
  rw[yia.cells]at r1;obtain ⟨x2,r2,o2,b2⟩:=yia.op (show _=some y2 from hf 2 _ rfl)
  replace r2:RelC W _ (List.take (Tryz.prog.cellsOf 3) (List.drop 2 cs)):=r2
  rw[yia.cells]at r2;obtain ⟨x3,r3,o3,b3⟩:=yia.op (show _=some y3 from hf 3 _ rfl)
  replace r3:RelC W _ (List.take (Tryz.prog.cellsOf 3) (List.drop 3 cs)):=r3
  rw[yia.cells]at r3;obtain ⟨x4,r4,o4,b4⟩:=jta.op (show _=some y4 from hf 4 _ rfl)
  replace r4:RelC W _ (List.take (Tryz.prog.cellsOf 4) (List.drop 4 cs)):=r4
  rw[jta.cells]at r4;obtain ⟨x5,r5,o5,b5⟩:=jta.op (show _=some y5 from hf 5 _ rfl)
  replace r5:RelC W _ (List.take (Tryz.prog.cellsOf 4) (List.drop 5 cs)):=r5
  rw[jta.cells]at r5;obtain ⟨x6,r6,o6,b6⟩:=jKa.op (show _=some y6 from hf 6 _ rfl)
  replace r6:RelC W _ (List.take (Tryz.prog.cellsOf 9) (List.drop 6 cs)):=r6
  rw[jKa.cells]at r6;obtain ⟨x7,r7,o7,b7⟩:=jba.op (show _=some y7 from hf 7 _ rfl)
  replace r7:RelC W _ (List.take (Tryz.prog.cellsOf 22) (List.drop 7 cs)):=r7
  rw[jba.cells]at r7;obtain ⟨x8,r8,o8,b8⟩:=jLa.op (show _=some y8 from hf 8 _ rfl)
  replace r8:RelC W _ (List.take (Tryz.prog.cellsOf 23) (List.drop 8 cs)):=r8
  rw[jLa.cells]at r8;obtain ⟨x9,r9,o9,b9⟩:=jLa.op (show _=some y9 from hf 9 _ rfl)
  replace r9:RelC W _ (List.take (Tryz.prog.cellsOf 23) (List.drop 9 cs)):=r9
  rw[jLa.cells]at r9;obtain ⟨x10,r10,o10,b10⟩:=yia.op (show _=some y10 from hf 10 _ rfl)
  replace r10:RelC W _ (List.take (Tryz.prog.cellsOf 3) (List.drop 10 cs)):=r10
  rw[yia.cells]at r10;obtain ⟨x11,r11,o11,b11⟩:=yia.op (show _=some y11 from hf 11 _ rfl)
  replace r11:RelC W _ (List.take (Tryz.prog.cellsOf 3) (List.drop 11 cs)):=r11
  rw[yia.cells]at r11;obtain ⟨x12,r12,o12,b12⟩:=jta.op (show _=some y12 from hf 12 _ rfl)
  replace r12:RelC W _ (List.take (Tryz.prog.cellsOf 4) (List.drop 12 cs)):=r12
  rw[jta.cells]at r12;obtain ⟨x13,r13,o13,b13⟩:=yia.op (show _=some y13 from hf 13 _ rfl)
  replace r13:RelC W _ (List.take (Tryz.prog.cellsOf 3) (List.drop 13 cs)):=r13
  rw[yia.cells]at r13;obtain ⟨x14,r14,o14,b14⟩:=jta.op (show _=some y14 from hf 14 _ rfl)
  replace r14:RelC W _ (List.take (Tryz.prog.cellsOf 4) (List.drop 14 cs)):=r14
  rw[jta.cells]at r14;obtain ⟨x15,r15,o15,b15⟩:=jta.op (show _=some y15 from hf 15 _ rfl)
  replace r15:RelC W _ (List.take (Tryz.prog.cellsOf 4) (List.drop 15 cs)):=r15
  rw[jta.cells]at r15;obtain ⟨x16,r16,o16,b16⟩:=yia.op (show _=some y16 from hf 16 _ rfl)
  replace r16:RelC W _ (List.take (Tryz.prog.cellsOf 3) (List.drop 16 cs)):=r16
  rw[yia.cells]at r16;exact ⟨⟨x0,x1,x2,x3,x4,x5,x6,x7,x8,x9,x10,x11,x12,x13,x14,x15,x16⟩,(kMa (off:=0) rfl r0 (kMa (off:=1) rfl r1 (kMa (off:=2) rfl r2 (kMa (off:=3) rfl r3 (kMa (off:=4) rfl r4 (kMa (off:=5) rfl r5 (kMa (off:=6) rfl r6 (kMa (off:=7) rfl r7 (kMa (off:=8) rfl r8 (kMa (off:=9) rfl r9 (kMa (off:=10) rfl r10 (kMa (off:=11) rfl r11 (kMa (off:=12) rfl r12 (kMa (off:=13) rfl r13 (kMa (off:=14) rfl r14 (kMa (off:=15) rfl r15 (kMa (off:=16) rfl r16 (q8b hl2)))))))))))))))))),⟨o0,o1,o2,o3,o4,o5,o6,o7,o8,o9,o10,o11,o12,o13,o14,o15,o16⟩,by simp only[List.map,Rows.uptoBulk,Rows.uptoBulkAll,zha.bk];omega⟩⟩
def R_In(a0:Int)(a1:Int)(a2:Int):Option Bool:=
 ((bif decide (a1<=a0) then some (decide (a0<=a2)) else some false):Option Bool).bind fun (j1:Bool)=>some j1
def R_At(a0:Int)(a1:Int):Option zra:=
 some ((zra.mk a0 a1))
def vZa(a0:UInt8):Option Bool:=
 ((R_In ((a0.toNat:Int)) 97 122).bind fun v2=>(bif v2 then some true else (R_In ((a0.toNat:Int)) 65 90).bind fun v5=>(bif v5 then some true else (R_In ((a0.toNat:Int)) 48 57).bind fun v8=>some v8)):Option Bool).bind fun (j1:Bool)=>some j1
def WKa(a0:Str)(s1:Int):Option (Step Int (Unit ⊕ Int)):=
 (bif decide (s1 < (a0.length:Int)) then (idx a0 s1).bind fun v7=>(bif ((v7.toNat:Int)==64) then some (.out (.inr s1)) else some (.cont (w64 (s1+1)))) else some (.out (.inl (()))))
noncomputable def yCb(a0:Str):Option Int:=
 (iter (WKa a0) 0).bind (Sum.elim (fun b2=>some ((a0.length:Int))) (fun b3=>some b3))
def vfa(a0:Str)(s1:Int):Option (Step Int (Unit ⊕ Bool)):=
 (bif decide (s1 < (a0.length:Int)) then (idx a0 s1).bind fun v7=>((idx a0 s1).bind fun v10=>(bif ((v10.toNat:Int)==46) then (bif (s1==0) then some true else (bif (s1==(w64 ((a0.length:Int) - 1))) then some true else (idx a0 ((w64 (s1 - 1)))).bind fun v15=>some (((v15.toNat:Int)==46)))) else some false):Option Bool).bind fun (j9:Bool)=>(bif j9 then some (.out (.inr false)) else ((R_In ((v7.toNat:Int)) 97 122).bind fun v19=>(bif (!v19) then (R_In ((v7.toNat:Int)) 48 57).bind fun v22=>(bif (!v22) then (idx a0 s1).bind fun v25=>(bif ((v25.toNat:Int) !=45) then (idx a0 s1).bind fun v28=>some (((v28.toNat:Int) !=46)) else some false) else some false) else some false):Option Bool).bind fun (j18:Bool)=>(bif j18 then some (.out (.inr false)) else some (.cont (w64 (s1+1))))) else some (.out (.inl (()))))
noncomputable def Q6a(a0:Str):Option Bool:=
 (iter (vfa a0) 0).bind (Sum.elim (fun b2=>(R_In ((a0.length:Int)) 1 60).bind fun v31=>some v31) (fun b3=>some b3))
def wJa(a0:Str)(v1:Int)(s3:Int):Option (Step Int (Unit ⊕ Bool)):=
 (bif decide (s3 < v1) then (idx a0 s3).bind fun v9=>((vZa v9).bind fun v12=>(bif (!v12) then (bif ((v9.toNat:Int) !=45) then (bif ((v9.toNat:Int) !=95) then (bif ((v9.toNat:Int) !=46) then (bif ((v9.toNat:Int) !=43) then some (((v9.toNat:Int) !=61)) else some false) else some false) else some false) else some false) else some false):Option Bool).bind fun (j11:Bool)=>(bif j11 then some (.out (.inr false)) else some (.cont (w64 (s3+1)))) else some (.out (.inl (()))))
noncomputable def yFa(a0:Str):Option Bool:=
 (yCb a0).bind fun v1=>(iter (wJa a0 v1) 0).bind (Sum.elim (fun b4=>((R_In v1 1 60).bind fun v21=>(bif v21 then (bif decide (v1 < (a0.length:Int)) then (cut a0 ((w64 (v1+1))) ((a0.length:Int))).bind fun v25=>(Q6a v25).bind fun v27=>some v27 else some false) else some false):Option Bool).bind fun (j20:Bool)=>some j20) (fun b5=>some b5))
def zta(a0:Int)(a1:Int):Option zra:=
 some ((zra.mk a0 a1))
def kha:Option zra:=
 some ((zra.mk 0 0))
def zKa(a0:zra):Option Bool:=
 some ((a0.Code !=0))
def vRa(a0:UInt8):Option Bool:=
 ((bif decide (97<=(a0.toNat:Int)) then (bif decide ((a0.toNat:Int)<=122) then some true else (bif decide (65<=(a0.toNat:Int)) then (bif decide ((a0.toNat:Int)<=90) then some true else (bif decide (48<=(a0.toNat:Int)) then some (decide ((a0.toNat:Int)<=57)) else some false)) else (bif decide (48<=(a0.toNat:Int)) then some (decide ((a0.toNat:Int)<=57)) else some false))) else (bif decide (65<=(a0.toNat:Int)) then (bif decide ((a0.toNat:Int)<=90) then some true else (bif decide (48<=(a0.toNat:Int)) then some (decide ((a0.toNat:Int)<=57)) else some false)) else (bif decide (48<=(a0.toNat:Int)) then some (decide ((a0.toNat:Int)<=57)) else some false))):Option Bool).bind fun (j1:Bool)=>some j1
def jca(a0:List Str)(a1:List Str)(s2:Int):Option (Step Int (Unit ⊕ Bool)):=
 (bif decide (s2 < (a0.length:Int)) then (idx a0 s2).bind fun v8=>(idx a1 s2).bind fun v10=>(bif (v8 !=v10) then some (.out (.inr false)) else some (.cont (w64 (s2+1)))) else some (.out (.inl (()))))
noncomputable def ZNa(a0:List Str)(a1:List Str):Option Bool:=
 (bif ((a0.length:Int) !=(a1.length:Int)) then some false else (iter (jca a0 a1) 0).bind (Sum.elim (fun b3=>some true) (fun b4=>some b4)))
def wua(a0:List UInt8)(a1:List UInt8):Option Bool:=
 some ((a0==a1))
def kCa(a0:List UInt8)(a1:List UInt8):Option Bool:=
 ((bif decide ((a1.length:Int)<=(a0.length:Int)) then (cut a0 ((w64 ((a0.length:Int) - (a1.length:Int)))) ((a0.length:Int))).bind fun v3=>(wua v3 a1).bind fun v5=>some v5 else some false):Option Bool).bind fun (j1:Bool)=>some j1
def j6a(a b:List UInt8):Option Int:=if a.length < 4294967281/\b.length=2 then some (Lib.index a b) else none
def zRa(s:Str)(c:UInt8):Option Int:=some (Lib.indexByte s c)
def kFa(s t:Str):Option Bool:=if s.length < 4294967281 then some (Lib.contains s t) else none
def qAa(s t:Str):Option (Str × Str × Bool):=if s.length < 4294967281 then some (Lib.cut s t) else none
def kra(a0:Int):Option Bool:=
 ((bif decide (0<=a0) then some (decide (a0 < 55296)) else some false):Option Bool).bind fun (j1:Bool)=>(bif j1 then some true else ((bif decide (57343 < a0) then some (decide (a0<=1114111)) else some false):Option Bool).bind fun (j4:Bool)=>(bif j4 then some true else some false))
def qea(a0:Str)(s7:Nat):Option (Step Nat (Unit ⊕ Int)):=
 (bif decide (s7 < a0.length) then (bif ((KIa a0 s7)==65533) then some (.out (.inr (((s7:Nat):Int)))) else some (.cont (s7+jIa a0 s7))) else some (.out (.inl (()))))
def yja(a0:Str)(a1:Int)(j23:Int × Int)(s36:Int):Option (Step Int Unit):=
 (bif decide (s36 < (((wUa a1)).length:Int)) then (idx a0 ((w64 (j23.2 - s36)))).bind fun v40=>(idx ((wUa a1)) ((w64 (j23.1 - s36)))).bind fun v42=>(bif ((v40.toNat:Int) !=(v42.toNat:Int)) then none else some (.cont (w64 (s36+1)))) else some (.out (())))
noncomputable def qfa(a0:Str)(a1:Int)(j23:Int × Int):Option (Step Int (Unit ⊕ Int)):=
 (iter (yja a0 a1 j23) 1).bind fun b37=>some (.out (.inr ((w64 (j23.2 - j23.1)))))
noncomputable def qga(a0:Str)(a1:Int)(s17:Int):Option (Step Int (Unit ⊕ Int)):=
 (bif decide (s17 < (a0.length:Int)) then (idx a0 s17).bind fun v24=>(idx ((wUa a1)) ((w64 ((((wUa a1)).length:Int) - 1)))).bind fun v26=>(bif ((v24.toNat:Int) !=(v26.toNat:Int)) then (cut a0 ((w64 (s17+1))) ((a0.length:Int))).bind fun v29=>(idx ((wUa a1)) ((w64 ((((wUa a1)).length:Int) - 1)))).bind fun v31=>(zRa v29 v31).bind fun v33=>(bif decide (v33 < 0) then some (.out (.inr ((-1)))) else (qfa a0 a1 ((w64 ((((wUa a1)).length:Int) - 1)),(w64 (s17+(w64 (v33+1))))))) else (qfa a0 a1 ((w64 ((((wUa a1)).length:Int) - 1)),s17))) else some (.out (.inl (()))))
noncomputable def kia(a0:Str)(a1:Int):Option Int:=
 ((bif decide (0<=a1) then some (decide (a1 < 128)) else some false):Option Bool).bind fun (j1:Bool)=>(bif j1 then (zRa a0 ((toU8 a1))).bind fun v4=>some v4 else (bif (a1==65533) then (iter (qea a0) 0).bind (Sum.elim (fun b8=>some ((-1))) (fun b9=>some b9)) else (kra a1).bind fun v14=>(bif (!v14) then some ((-1)) else (iter (qga a0 a1) ((w64 ((((wUa a1)).length:Int) - 1)))).bind (Sum.elim (fun b18=>some ((-1))) (fun b19=>some b19)))))
def zFa(a0:Int):Option Bool:=
 some (decide (8 < a0))
noncomputable def qha(a0:Str)(a1:Str)(s12:Nat):Option (Step Nat (Unit ⊕ Int)):=
 (bif decide (s12 < a0.length) then (kia a1 ((KIa a0 s12))).bind fun v18=>(bif decide (0<=v18) then some (.out (.inr (((s12:Nat):Int)))) else some (.cont (s12+jIa a0 s12))) else some (.out (.inl (()))))
noncomputable def vga(a0:Str)(a1:Str):Option Int:=
 (bif (a1==([]:Str)) then some ((-1)) else (bif ((a1.length:Int)==1) then (idx a1 0).bind fun v3=>((bif decide (128<=(v3.toNat:Int)) then some 65533 else some ((v3.toNat:Int))):Option Int).bind fun (j5:Int)=>(kia a0 j5).bind fun v7=>some v7 else (zFa ((a0.length:Int))).bind fun v9=>(bif v9 then none else (iter (qha a0 a1) 0).bind (Sum.elim (fun b13=>some ((-1))) (fun b14=>some b14)))))
def Y4a(t:Str):Bool:=t.all fun c=>decide (c.toNat < 128)
def k5a(s t:Str):Option Int:=if s.length < 4294967281/\t.length < 4294967281/\2<=t.length/\Y4a t=true then some (Lib.indexAny s t) else none
def z3a(a0:Str)(a1:Str):Option Bool:=
 ((bif decide ((a1.length:Int)<=(a0.length:Int)) then (cut a0 0 ((a1.length:Int))).bind fun v3=>some ((v3==a1)) else some false):Option Bool).bind fun (j1:Bool)=>some j1
def kva(a0:Str)(a1:Str):Option Bool:=
 (z3a a0 a1).bind fun v1=>some v1
def z4a(a0:Str)(a1:Str):Option Bool:=
 ((bif decide ((a1.length:Int)<=(a0.length:Int)) then (cut a0 ((w64 ((a0.length:Int) - (a1.length:Int)))) ((a0.length:Int))).bind fun v3=>some ((v3==a1)) else some false):Option Bool).bind fun (j1:Bool)=>some j1
def kwa(a0:Str)(a1:Str):Option Bool:=
 (z4a a0 a1).bind fun v1=>some v1
def k9a(a0:Str)(s5:Int):Option (Step Int (Unit ⊕ Unit)):=
 (bif decide (s5 < (a0.length:Int)) then (idx a0 s5).bind fun v11=>((bif decide (97<=(v11.toNat:Int)) then (bif decide ((v11.toNat:Int)<=122) then some true else (bif decide (48<=(v11.toNat:Int)) then (bif decide ((v11.toNat:Int)<=57) then some true else (bif ((v11.toNat:Int)==45) then some true else some (((v11.toNat:Int)==46)))) else (bif ((v11.toNat:Int)==45) then some true else some (((v11.toNat:Int)==46))))) else (bif decide (48<=(v11.toNat:Int)) then (bif decide ((v11.toNat:Int)<=57) then some true else (bif ((v11.toNat:Int)==45) then some true else some (((v11.toNat:Int)==46)))) else (bif ((v11.toNat:Int)==45) then some true else some (((v11.toNat:Int)==46))))):Option Bool).bind fun (j13:Bool)=>(bif (!j13) then some (.out (.inr (()))) else some (.cont (w64 (s5+1)))) else some (.out (.inl (()))))
noncomputable def q2a(a0:Str):Option Bool:=
 ((bif (a0 !=([]:Str)) then (bif decide ((a0.length:Int)<=60) then ((iter (k9a a0) 0).bind (Sum.elim (fun b6=>some true) (fun b7=>some false)):Option Bool).bind fun (j4:Bool)=>(bif j4 then (kva a0 (([46]:Str))).bind fun v26=>(bif (!v26) then (kwa a0 (([46]:Str))).bind fun v29=>(bif (!v29) then (kFa a0 (([46,46]:Str))).bind fun v32=>some ((!v32)) else some false) else some false) else some false) else some false) else some false):Option Bool).bind fun (j1:Bool)=>some j1
def qka(v1:Str × Str × Bool)(s8:Int):Option (Step Int (Unit ⊕ Unit)):=
 (bif decide (s8 < (v1.1.length:Int)) then (idx v1.1 s8).bind fun v14=>((vRa v14).bind fun v17=>(bif v17 then some true else (zRa (([45,95,46,43,61]:Str)) v14).bind fun v20=>some (decide (0<=v20))):Option Bool).bind fun (j16:Bool)=>(bif (!j16) then some (.out (.inr (()))) else some (.cont (w64 (s8+1)))) else some (.out (.inl (()))))
noncomputable def vta(a0:Str):Option (Str × Str × Bool):=
 (qAa a0 (([64]:Str))).bind fun v1=>((bif v1.2.2 then (bif (v1.1 !=([]:Str)) then (bif decide ((v1.1.length:Int)<=60) then ((iter (qka v1) 0).bind (Sum.elim (fun b9=>some true) (fun b10=>some false)):Option Bool).bind fun (j7:Bool)=>(bif j7 then (q2a v1.2.1).bind fun v24=>some v24 else some false) else some false) else some false) else some false):Option Bool).bind fun (j3:Bool)=>some ((v1.1,v1.2.1,j3))
noncomputable def kda(a0:Str):Option Bool:=
 (vta a0).bind fun v1=>some v1.2.2
def KYa(a0:Str)(s1:Int):Option (Step Int (Unit ⊕ Bool)):=
 (bif decide (s1 < (a0.length:Int)) then ((idx a0 s1).bind fun v8=>(vZa v8).bind fun v10=>(bif (!v10) then (idx a0 s1).bind fun v13=>(bif ((v13.toNat:Int) !=45) then (idx a0 s1).bind fun v16=>(bif ((v16.toNat:Int) !=95) then (idx a0 s1).bind fun v19=>some (((v19.toNat:Int) !=46)) else some false) else some false) else some false):Option Bool).bind fun (j7:Bool)=>(bif j7 then some (.out (.inr false)) else some (.cont (w64 (s1+1)))) else some (.out (.inl (()))))
noncomputable def Wga(a0:Str):Option Bool:=
 (iter (KYa a0) 0).bind (Sum.elim (fun b2=>(R_In ((a0.length:Int)) 1 60).bind fun v22=>some v22) (fun b3=>some b3))
def Q7a(a0:List zca)(a1:Str)(s1:Int):Option (Step Int (Unit ⊕ Int)):=
 (bif decide (s1 < (a0.length:Int)) then (idx a0 s1).bind fun v7=>(bif (v7.Address==a1) then some (.out (.inr s1)) else some (.cont (w64 (s1+1)))) else some (.out (.inl (()))))
noncomputable def qrb(a0:List zca)(a1:Str):Option Int:=
 (iter (Q7a a0 a1) 0).bind (Sum.elim (fun b2=>some ((-1))) (fun b3=>some b3))
def v0a(a0:Str)(s5:Int):Option (Step Int (Unit ⊕ Unit)):=
 (bif decide (s5 < (a0.length:Int)) then (idx a0 s5).bind fun v11=>((vRa v11).bind fun v14=>(bif v14 then some true else (bif ((v11.toNat:Int)==45) then some true else (bif ((v11.toNat:Int)==95) then some true else some (((v11.toNat:Int)==46))))):Option Bool).bind fun (j13:Bool)=>(bif (!j13) then some (.out (.inr (()))) else some (.cont (w64 (s5+1)))) else some (.out (.inl (()))))
noncomputable def wva(a0:Str):Option Bool:=
 ((bif (a0 !=([]:Str)) then (bif decide ((a0.length:Int)<=60) then ((iter (v0a a0) 0).bind (Sum.elim (fun b6=>some true) (fun b7=>some false)):Option Bool).bind fun (j4:Bool)=>some j4 else some false) else some false):Option Bool).bind fun (j1:Bool)=>some j1
def kVa(a0:Int):Option Bool:=
 ((bif decide (0<=a0) then some (decide (a0<=7)) else some false):Option Bool).bind fun (j1:Bool)=>some j1
def ksa(v7:zca)(v19:List zca)(s22:Int):Option (Step Int (Unit ⊕ Int)):=
 (bif decide (s22 < (v19.length:Int)) then (idx v19 s22).bind fun v28=>(bif (v28.Address==v7.Address) then some (.out (.inr s22)) else some (.cont (w64 (s22+1)))) else some (.out (.inl (()))))
noncomputable def k1a(a0:List zca)(s1:Int):Option (Step Int (Unit ⊕ zra)):=
 (bif decide (s1 < (a0.length:Int)) then (idx a0 s1).bind fun v7=>(kda v7.Address).bind fun v9=>(bif (!v9) then (zta 10 s1).bind fun v12=>some (.out (.inr v12)) else (kVa v7.Notify).bind fun v14=>(bif (!v14) then (zta 3 s1).bind fun v17=>some (.out (.inr v17)) else (cut a0 0 s1).bind fun v19=>((iter (ksa v7 v19) 0).bind (Sum.elim (fun b23=>some ((-1))) (fun b24=>some b24)):Option Int).bind fun (j21:Int)=>(bif decide (0<=j21) then (zta 7 s1).bind fun v32=>some (.out (.inr v32)) else some (.cont (w64 (s1+1)))))) else some (.out (.inl (()))))
noncomputable def kfa(a0:List zca):Option zra:=
 (iter (k1a a0) 0).bind (Sum.elim (fun b2=>(kha).bind fun v34=>some v34) (fun b3=>some b3))
noncomputable def qla(a0:kaa):Option zra:=
 ((bif (a0.From !=([]:Str)) then (kda a0.From).bind fun v3=>some ((!v3)) else some false):Option Bool).bind fun (j1:Bool)=>(bif j1 then (zta 10 ((-10))).bind fun v6=>some v6 else ((bif decide ((a0.To.length:Int) < 1) then some true else some (decide (60 < (a0.To.length:Int)))):Option Bool).bind fun (j8:Bool)=>(bif j8 then (zta 2 ((-11))).bind fun v11=>some v11 else ((bif (a0.Id !=([]:Str)) then (wva a0.Id).bind fun v15=>some ((!v15)) else some false):Option Bool).bind fun (j13:Bool)=>(bif j13 then (zta 10 ((-12))).bind fun v18=>some v18 else (kfa a0.To).bind fun v20=>some v20)))
def qma(s4:Int × (List zca) × (List (Str × Int)))(j10:(List zca) × (List (Str × Int))):Option (Step (Int × (List zca) × (List (Str × Int))) ((List zca) ⊕ ((List zca) × zra))):=
 some (.cont ((w64 (s4.1+1)),j10.1,j10.2))
noncomputable def qna(a0:List zca)(s4:Int × (List zca) × (List (Str × Int))):Option (Step (Int × (List zca) × (List (Str × Int))) ((List zca) ⊕ ((List zca) × zra))):=
 (bif decide (s4.1 < (a0.length:Int)) then (idx a0 s4.1).bind fun v11=>(kda v11.Address).bind fun v13=>(bif (!v13) then (zta 10 s4.1).bind fun v16=>some (.out (.inr (([],v16)))) else (kVa v11.Notify).bind fun v18=>(bif (!v18) then (zta 3 s4.1).bind fun v21=>some (.out (.inr (([],v21)))) else (bif (mget s4.2.2 v11.Address).isSome then (idx s4.2.1 (((mget s4.2.2 v11.Address).getD 0))).bind fun v24=>(idx s4.2.1 (((mget s4.2.2 v11.Address).getD 0))).bind fun v26=>(idx s4.2.1 (((mget s4.2.2 v11.Address).getD 0))).bind fun v28=>(idx s4.2.1 (((mget s4.2.2 v11.Address).getD 0))).bind fun v30=>(qma s4 ((List.set s4.2.1 (Int.toNat (((mget s4.2.2 v11.Address).getD 0))) ((zca.mk v30.Address ((iOr v26.Notify v11.Notify))))),s4.2.2)) else (app 5864062014805 s4.2.1 (([v11]:List zca))).bind fun v32=>(qma s4 (v32,(mput s4.2.2 v11.Address ((s4.2.1.length:Int)))))))) else some (.out (.inl s4.2.1)))
noncomputable def vua(a0:List zca):Option ((List zca) × zra):=
 (bif decide (300 < (a0.length:Int)) then (zta 2 ((-1))).bind fun v2=>some (([],v2)) else (iter (qna a0) ((0,([]:List zca),([]:List (Str × Int))))).bind (Sum.elim (fun b5=>(kha).bind fun v34=>some ((b5,v34))) (fun b6=>some ((b6.1,b6.2)))))
def yGa(a0:Int)(a1:Int)(s1:Int × Int):Option (Step (Int × Int) Int):=
 (bif decide (s1.2<=4) then (((nz s1.2).bind fun v7=>(bif ((iRem ((iQuo a0 s1.2)) 2)==1) then some true else (nz s1.2).bind fun v10=>some (((iRem ((iQuo a1 s1.2)) 2)==1))):Option Bool).bind fun (j6:Bool)=>(bif j6 then some ((w64 (s1.1+s1.2))) else some s1.1):Option Int).bind fun (j5:Int)=>some (.cont (j5,(w64 (2 * s1.2)))) else some (.out s1.1))
noncomputable def J3a(a0:Int)(a1:Int):Option Int:=
 (iter (yGa a0 a1) ((0,1))).bind fun b2=>some b2
noncomputable def j7a(a0:List zca)(v11:zca)(s13:Int × Int):Option (Step (Int × Int) Int):=
 (bif decide (s13.1 < (a0.length:Int)) then ((idx a0 s13.1).bind fun v18=>(bif (v18.Address==v11.Address) then (idx a0 s13.1).bind fun v21=>(J3a s13.2 v21.Notify).bind fun v23=>some v23 else some s13.2):Option Int).bind fun (j17:Int)=>some (.cont ((w64 (s13.1+1)),j17)) else some (.out s13.2))
noncomputable def j8a(a0:List zca)(s1:Int × (List zca)):Option (Step (Int × (List zca)) (List zca)):=
 (bif decide (s1.1 < (a0.length:Int)) then ((idx a0 s1.1).bind fun v6=>(qrb s1.2 v6.Address).bind fun v8=>(bif decide (0<=v8) then some s1.2 else (idx a0 s1.1).bind fun v11=>(iter (j7a a0 v11) (((w64 (s1.1+1)),v11.Notify))).bind fun b14=>(app 5864062014805 s1.2 (([(zca.mk v11.Address b14)]:List zca))).bind fun v25=>some v25):Option (List zca)).bind fun (j5:List zca)=>some (.cont ((w64 (s1.1+1)),j5)) else some (.out s1.2))
noncomputable def J4a(a0:List zca):Option (List zca):=
 (iter (j8a a0) ((0,([]:List zca)))).bind fun b2=>some b2
def kga(a0:Str)(a1:Str):Option Bool:=
 (k5a a0 a1).bind fun v1=>some (decide (0<=v1))
def wVa(a0:Str)(s5:Int):Option (Step Int (Unit ⊕ Unit)):=
 (bif decide (s5 < (a0.length:Int)) then (idx a0 s5).bind fun v11=>((bif decide (33<=(v11.toNat:Int)) then (bif decide ((v11.toNat:Int)<=126) then some (((v11.toNat:Int) !=58)) else some false) else some false):Option Bool).bind fun (j13:Bool)=>(bif (!j13) then some (.out (.inr (()))) else some (.cont (w64 (s5+1)))) else some (.out (.inl (()))))
noncomputable def ZOa(a0:Str):Option Bool:=
 ((bif (a0 !=([]:Str)) then (bif decide ((a0.length:Int)<=60) then ((iter (wVa a0) 0).bind (Sum.elim (fun b6=>some true) (fun b7=>some false)):Option Bool).bind fun (j4:Bool)=>some j4 else some false) else some false):Option Bool).bind fun (j1:Bool)=>some j1
def ZPa(a0:Str):Option Bool:=
 (kga a0 (([13,10,0]:Str))).bind fun v1=>some v1
def qBa(a0:UInt8):Option Bool:=
 ((bif ((a0.toNat:Int)==32) then some true else some (((a0.toNat:Int)==9))):Option Bool).bind fun (j1:Bool)=>some j1
def jMa(a0:Str):Option Bool:=
 ((ZPa a0).bind fun v2=>(bif (!v2) then (bif (a0==([]:Str)) then some true else (idx a0 0).bind fun v6=>(qBa v6).bind fun v8=>(bif (!v8) then (idx a0 ((w64 ((a0.length:Int) - 1)))).bind fun v11=>(qBa v11).bind fun v13=>some ((!v13)) else some false)) else some false):Option Bool).bind fun (j1:Bool)=>some j1
def qCa(s1:Int × Int)(j5:Int):Option (Step (Int × Int) Int):=
 some (.cont (j5,(w64 (s1.2+1))))
def yqa(a0:Str)(s1:Int × Int):Option (Step (Int × Int) Int):=
 (bif decide (s1.2 < (a0.length:Int)) then ((idx a0 s1.2).bind fun v7=>(qBa v7).bind fun v9=>(bif (!v9) then some true else (idx a0 ((w64 (s1.2 - 1)))).bind fun v12=>(qBa v12).bind fun v14=>some v14):Option Bool).bind fun (j6:Bool)=>(bif j6 then (qCa s1 s1.1) else ((bif decide (0 < s1.1) then some (decide (78 < s1.2)) else some false):Option Bool).bind fun (j17:Bool)=>(bif j17 then some (.out s1.1) else (qCa s1 s1.2))) else some (.out s1.1))
noncomputable def jNa(a0:Str)(a1:Int):Option Int:=
 (iter (yqa a0) ((0,(max a1 1)))).bind fun b2=>some b2
noncomputable def wWa(s18:Str × Int × (List Str)):Option (Step (Str × Int × (List Str)) (Str × (List Str))):=
 (bif decide (78 < (s18.1.length:Int)) then (jNa s18.1 s18.2.1).bind fun v22=>(bif (v22==0) then some (.out ((s18.1,s18.2.2))) else (cut s18.1 0 v22).bind fun v25=>(app 8796093022208 s18.2.2 (([v25]:List Str))).bind fun v27=>(cut s18.1 v22 ((s18.1.length:Int))).bind fun v29=>some (.cont (v29,0,v27))) else some (.out ((s18.1,s18.2.2))))
def jda(v31:List Str)(s34:Int):Option (Step Int (Unit ⊕ ((List Str) × zra))):=
 (bif decide (s34 < (v31.length:Int)) then (idx v31 s34).bind fun v40=>(bif decide (998 < (v40.length:Int)) then (zta 1 s34).bind fun v43=>some (.out (.inr (([],v43)))) else some (.cont (w64 (s34+1)))) else some (.out (.inl (()))))
noncomputable def yHa(a0:Str)(a1:Str):Option ((List Str) × zra):=
 (ZOa a0).bind fun v1=>(bif (!v1) then (zta 10 ((-1))).bind fun v4=>some (([],v4)) else (bif decide (4000 < (a1.length:Int)) then (zta 1 ((-1))).bind fun v7=>some (([],v7)) else (jMa a1).bind fun v9=>(bif (!v9) then (zta 11 ((-1))).bind fun v12=>some (([],v12)) else (cat a0 (([58,32]:Str))).bind fun v14=>(cat v14 a1).bind fun v16=>(iter (wWa) ((v16,(w64 ((a0.length:Int)+2)),([]:List Str)))).bind fun b19=>(app 8796093022208 b19.2 (([b19.1]:List Str))).bind fun v31=>(iter (jda v31) 0).bind (Sum.elim (fun b35=>(kha).bind fun v45=>some ((v31,v45))) (fun b36=>some ((b36.1,b36.2)))))))
noncomputable def qSa(a0:List zia)(s4:Int):Option (Step Int (Unit ⊕ zra)):=
 (bif decide (s4 < (a0.length:Int)) then (idx a0 s4).bind fun v10=>(yHa v10.Name v10.Value).bind fun v12=>(zKa v12.2).bind fun v14=>(bif v14 then (zta v12.2.Code s4).bind fun v17=>some (.out (.inr v17)) else some (.cont (w64 (s4+1)))) else some (.out (.inl (()))))
noncomputable def q3a(a0:List zia):Option zra:=
 (bif decide (60 < (a0.length:Int)) then (zta 2 ((-1))).bind fun v2=>some v2 else (iter (qSa a0) 0).bind (Sum.elim (fun b5=>(kha).bind fun v19=>some v19) (fun b6=>some b6)))
def qFa(v7:(List Str) × zra)(s9:Int × (List UInt8)):Option (Step (Int × (List UInt8)) (List UInt8)):=
 (bif decide (s9.1 < (v7.1.length:Int)) then (idx v7.1 s9.1).bind fun v13=>(app 140737488355328 s9.2 v13).bind fun v15=>(app 140737488355328 v15 (([(13:UInt8),(10:UInt8)]:List UInt8))).bind fun v17=>some (.cont ((w64 (s9.1+1)),v17)) else some (.out s9.2))
noncomputable def qGa(a0:zxa)(s1:Int × (List UInt8)):Option (Step (Int × (List UInt8)) (List UInt8)):=
 (bif decide (s1.1 < (a0.Fields.length:Int)) then (idx a0.Fields s1.1).bind fun v5=>(yHa v5.Name v5.Value).bind fun v7=>(iter (qFa v7) ((0,s1.2))).bind fun b10=>some (.cont ((w64 (s1.1+1)),b10)) else some (.out s1.2))
noncomputable def vha(a0:zxa):Option (List UInt8):=
 (iter (qGa a0) ((0,([]:List UInt8)))).bind fun b2=>(app 140737488355328 b2 (([(13:UInt8),(10:UInt8)]:List UInt8))).bind fun v19=>(app 140737488355328 v19 a0.Body).bind fun v21=>some v21
def v1a(j7:Int × Int):Option (Step (Int × Int) (Unit ⊕ Int)):=
 some (.cont (j7.1,(w64 (j7.2+1))))
def via(a0:List UInt8)(s1:Int × Int):Option (Step (Int × Int) (Unit ⊕ Int)):=
 (bif decide (s1.2 < (a0.length:Int)) then (idx a0 s1.2).bind fun v8=>((bif ((v8.toNat:Int)==13) then (bif decide ((w64 (s1.2+1)) < (a0.length:Int)) then (idx a0 ((w64 (s1.2+1)))).bind fun v13=>some (((v13.toNat:Int)==10)) else some false) else some false):Option Bool).bind fun (j10:Bool)=>(bif j10 then (v1a (0,(w64 (s1.2+1)))) else ((bif ((v8.toNat:Int)==13) then some true else some (((v8.toNat:Int)==10))):Option Bool).bind fun (j16:Bool)=>(bif j16 then some (.out (.inr 11)) else (bif decide (998 < (w64 (s1.1+1))) then some (.out (.inr 1)) else (v1a ((w64 (s1.1+1)),s1.2))))) else some (.out (.inl (()))))
noncomputable def jOa(a0:List UInt8):Option Int:=
 (iter (via a0) ((0,0))).bind (Sum.elim (fun b2=>some 0) (fun b3=>some b3))
noncomputable def wXa(a0:List UInt8):Option zra:=
 (jOa a0).bind fun v1=>(bif (v1==11) then (zta 11 ((-5))).bind fun v4=>some v4 else (bif (v1==1) then (zta 1 ((-6))).bind fun v7=>some v7 else (kha).bind fun v9=>some v9))
noncomputable def kGa(a0:zxa):Option zra:=
 (q3a a0.Fields).bind fun v1=>(zKa v1).bind fun v3=>(bif v3 then some v1 else (vha a0).bind fun v6=>(bif decide (12000 < (v6.length:Int)) then (zta 1 ((-4))).bind fun v9=>some v9 else (wXa a0.Body).bind fun v11=>some v11))
noncomputable def vva(a0:zwa):Option zra:=
 (qla a0.Envelope).bind fun v1=>(zKa v1).bind fun v3=>(bif v3 then some v1 else (kGa a0.Message).bind fun v6=>(zKa v6).bind fun v8=>(bif v8 then (zta v6.Code ((-30))).bind fun v11=>some v11 else (kha).bind fun v13=>some v13))
def vqa(a0:UInt8):Option Bool:=
 ((bif ((a0.toNat:Int)==32) then some true else some (((a0.toNat:Int)==9))):Option Bool).bind fun (j1:Bool)=>some j1
def kWa(s5:Str × Int × (List Str))(s9:Int × Int):Option (Step (Int × Int) Int):=
 ((bif decide (0 < s9.2) then some ((s9.1==0)) else some false):Option Bool).bind fun (j12:Bool)=>(bif j12 then (((bif decide (s5.2.1<=s9.2) then (idx s5.1 s9.2).bind fun v18=>(vqa v18).bind fun v20=>(bif v20 then (idx s5.1 ((w64 (s9.2 - 1)))).bind fun v23=>(vqa v23).bind fun v25=>some ((!v25)) else some false) else some false):Option Bool).bind fun (j16:Bool)=>(bif j16 then some s9.2 else some s9.1):Option Int).bind fun (j15:Int)=>some (.cont (j15,(w64 (s9.2 - 1)))) else some (.out s9.1))
def kDa(s5:Str × Int × (List Str))(s28:Int × Int):Option (Step (Int × Int) Int):=
 ((bif decide (s28.2 < (s5.1.length:Int)) then some ((s28.1==0)) else some false):Option Bool).bind fun (j31:Bool)=>(bif j31 then (((bif decide (s5.2.1<=s28.2) then (idx s5.1 s28.2).bind fun v37=>(vqa v37).bind fun v39=>(bif v39 then (idx s5.1 ((w64 (s28.2 - 1)))).bind fun v42=>(vqa v42).bind fun v44=>some ((!v44)) else some false) else some false):Option Bool).bind fun (j35:Bool)=>(bif j35 then some s28.2 else some s28.1):Option Int).bind fun (j34:Int)=>some (.cont (j34,(w64 (s28.2+1)))) else some (.out s28.1))
noncomputable def v2a(s5:Str × Int × (List Str)):Option (Step (Str × Int × (List Str)) (Str × (List Str))):=
 (bif decide (78 < (s5.1.length:Int)) then (iter (kWa s5) ((0,78))).bind fun b10=>(iter (kDa s5) ((b10,79))).bind fun b29=>(bif (b29==0) then some (.out ((s5.1,s5.2.2))) else (cut s5.1 0 b29).bind fun v48=>(app 8796093022208 s5.2.2 (([v48]:List Str))).bind fun v50=>(cut s5.1 b29 ((s5.1.length:Int))).bind fun v52=>some (.cont (v52,1,v50))) else some (.out ((s5.1,s5.2.2))))
noncomputable def jea(a0:Str)(a1:Str):Option (List Str):=
 (cat a0 (([58,32]:Str))).bind fun v1=>(cat v1 a1).bind fun v3=>(iter (v2a) ((v3,(w64 ((a0.length:Int)+2)),([]:List Str)))).bind fun b6=>(app 8796093022208 b6.2 (([b6.1]:List Str))).bind fun v54=>some v54
def wKa(a0:zia)(s1:Int):Option (Step Int (Unit ⊕ Int)):=
 (bif decide (s1 < (a0.Name.length:Int)) then ((idx a0.Name s1).bind fun v8=>(R_In ((v8.toNat:Int)) 33 126).bind fun v10=>(bif (!v10) then some true else (idx a0.Name s1).bind fun v13=>some (((v13.toNat:Int)==58))):Option Bool).bind fun (j7:Bool)=>(bif j7 then some (.out (.inr 10)) else some (.cont (w64 (s1+1)))) else some (.out (.inl (()))))
def wLa(a0:zia)(s20:Int):Option (Step Int (Unit ⊕ Int)):=
 (bif decide (s20 < (a0.Value.length:Int)) then ((idx a0.Value s20).bind fun v27=>(bif ((v27.toNat:Int)==0) then some true else (idx a0.Value s20).bind fun v30=>(bif ((v30.toNat:Int)==10) then some true else (idx a0.Value s20).bind fun v33=>some (((v33.toNat:Int)==13)))):Option Bool).bind fun (j26:Bool)=>(bif j26 then some (.out (.inr 11)) else some (.cont (w64 (s20+1)))) else some (.out (.inl (()))))
def wMa(v48:List Str)(s50:Int):Option (Step Int (Unit ⊕ Int)):=
 (bif decide (s50 < (v48.length:Int)) then (idx v48 s50).bind fun v56=>(bif decide (998 < (v56.length:Int)) then some (.out (.inr 1)) else some (.cont (w64 (s50+1)))) else some (.out (.inl (()))))
noncomputable def j9a(a0:zia):Option Int:=
 (iter (wKa a0) 0).bind (Sum.elim (fun b2=>(R_In ((a0.Name.length:Int)) 1 60).bind fun v16=>(bif (!v16) then some 10 else (bif decide (4000 < (a0.Value.length:Int)) then some 1 else (iter (wLa a0) 0).bind (Sum.elim (fun b21=>((bif decide (0 < (a0.Value.length:Int)) then (idx a0.Value 0).bind fun v38=>(vqa v38).bind fun v40=>(bif v40 then some true else (idx a0.Value ((w64 ((a0.Value.length:Int) - 1)))).bind fun v43=>(vqa v43).bind fun v45=>some v45) else some false):Option Bool).bind fun (j36:Bool)=>(bif j36 then some 11 else (jea a0.Name a0.Value).bind fun v48=>(iter (wMa v48) 0).bind (Sum.elim (fun b51=>some 0) (fun b52=>some b52)))) (fun b22=>some b22))))) (fun b3=>some b3))
def vja(v9:List Str)(s11:Int × (List UInt8)):Option (Step (Int × (List UInt8)) (List UInt8)):=
 (bif decide (s11.1 < (v9.length:Int)) then (idx v9 s11.1).bind fun v15=>(app 140737488355328 s11.2 v15).bind fun v17=>(app 140737488355328 v17 (([(13:UInt8),(10:UInt8)]:List UInt8))).bind fun v19=>some (.cont ((w64 (s11.1+1)),v19)) else some (.out s11.2))
noncomputable def vka(a0:zxa)(s1:Int × (List UInt8)):Option (Step (Int × (List UInt8)) (List UInt8)):=
 (bif decide (s1.1 < (a0.Fields.length:Int)) then (idx a0.Fields s1.1).bind fun v5=>(idx a0.Fields s1.1).bind fun v7=>(jea v5.Name v7.Value).bind fun v9=>(iter (vja v9) ((0,s1.2))).bind fun b12=>some (.cont ((w64 (s1.1+1)),b12)) else some (.out s1.2))
noncomputable def jua(a0:zxa):Option (List UInt8):=
 (iter (vka a0) ((0,([]:List UInt8)))).bind fun b2=>(app 140737488355328 b2 (([(13:UInt8),(10:UInt8)]:List UInt8))).bind fun v21=>(app 140737488355328 v21 a0.Body).bind fun v23=>some v23
noncomputable def wwa(a0:zxa)(s4:Int):Option (Step Int (Unit ⊕ zra)):=
 (bif decide (s4 < (a0.Fields.length:Int)) then (idx a0.Fields s4).bind fun v10=>(j9a v10).bind fun v12=>(bif (v12 !=0) then (R_At v12 s4).bind fun v15=>some (.out (.inr v15)) else some (.cont (w64 (s4+1)))) else some (.out (.inl (()))))
def wxa(j30:Int × Int):Option (Step (Int × Int) (Unit ⊕ zra)):=
 some (.cont (j30.1,(w64 (j30.2+1))))
def qoa(a0:zxa)(s24:Int × Int):Option (Step (Int × Int) (Unit ⊕ zra)):=
 (bif decide (s24.2 < (a0.Body.length:Int)) then (idx a0.Body s24.2).bind fun v31=>((bif ((v31.toNat:Int)==13) then (bif decide ((w64 (s24.2+1)) < (a0.Body.length:Int)) then (idx a0.Body ((w64 (s24.2+1)))).bind fun v36=>some (((v36.toNat:Int)==10)) else some false) else some false):Option Bool).bind fun (j33:Bool)=>(bif j33 then (wxa (0,(w64 (s24.2+1)))) else ((bif ((v31.toNat:Int)==13) then some true else some (((v31.toNat:Int)==10))):Option Bool).bind fun (j39:Bool)=>(bif j39 then (R_At 11 ((-5))).bind fun v42=>some (.out (.inr v42)) else (bif decide (998 < (w64 (s24.1+1))) then (R_At 1 ((-6))).bind fun v45=>some (.out (.inr v45)) else (wxa ((w64 (s24.1+1)),s24.2))))) else some (.out (.inl (()))))
noncomputable def jva(a0:zxa):Option zra:=
 (bif decide (60 < (a0.Fields.length:Int)) then (R_At 2 ((-1))).bind fun v2=>some v2 else (iter (wwa a0) 0).bind (Sum.elim (fun b5=>((bif decide (12000 < (a0.Body.length:Int)) then some true else (jua a0).bind fun v19=>some (decide (12000 < (v19.length:Int)))):Option Bool).bind fun (j17:Bool)=>(bif j17 then (R_At 1 ((-4))).bind fun v22=>some v22 else (iter (qoa a0) ((0,0))).bind (Sum.elim (fun b25=>some ((zra.mk 0 0))) (fun b26=>some b26)))) (fun b6=>some b6)))
noncomputable def wya(a0:Str):Option Bool:=
 (yHa a0 (([]:Str))).bind fun v1=>(zKa v1.2).bind fun v3=>some ((!v3))
def qca(a0:Str)(s1:Int × (List UInt8)):Option (Step (Int × (List UInt8)) (List UInt8)):=
 (bif decide (s1.1 < (a0.length:Int)) then ((idx s1.2 s1.1).bind fun v6=>(idx s1.2 s1.1).bind fun v8=>((bif decide (65<=(v8.toNat:Int)) then some (decide ((v8.toNat:Int)<=90)) else some false):Option Bool).bind fun (j10:Bool)=>(bif j10 then (idx s1.2 s1.1).bind fun v13=>(idx s1.2 s1.1).bind fun v15=>some ((List.set s1.2 (Int.toNat s1.1) (((v8+(97:UInt8)) - (65:UInt8))))) else some s1.2):Option (List UInt8)).bind fun (j5:List UInt8)=>some (.cont ((w64 (s1.1+1)),j5)) else some (.out s1.2))
noncomputable def vKa(a0:Str):Option Str:=
 (iter (qca a0) ((0,a0))).bind fun b2=>some b2
def Kma(a0:Str)(s1:Int × (List UInt8)):Option (Step (Int × (List UInt8)) (List UInt8)):=
 (bif decide (s1.1 < (a0.length:Int)) then (idx a0 s1.1).bind fun v5=>((R_In ((v5.toNat:Int)) 65 90).bind fun v8=>(bif v8 then some ((v5+(32:UInt8))) else some v5):Option UInt8).bind fun (j7:UInt8)=>(app 140737488355328 s1.2 (([j7]:List UInt8))).bind fun v11=>some (.cont ((w64 (s1.1+1)),v11)) else some (.out s1.2))
noncomputable def WLa(a0:Str):Option Str:=
 (iter (Kma a0) ((0,([]:List UInt8)))).bind fun b2=>some b2
def z5a(n:Int):Option Str:=if -9223372036854775808<=n/\n<=9223372036854775807 then some (Lib.itoa n) else none
def q4a(s:Str):Option (Int × Bool):=if s.length<=18 then (match Lib.atoi s with | some n=>some (n,false) | none=>some (0,true)) else none
def yIa(a0:Int):Option Str:=
 (bif decide (a0 < 10) then (cut (([48,49,50,51,52,53,54,55,56,57]:Str)) a0 ((w64 (a0+1)))).bind fun v2=>some v2 else none)
def yJa(a0:Int):Option Str:=
 (bif decide (a0 < 10) then (cut (([48,49,50,51,52,53,54,55,56,57]:Str)) a0 ((w64 (a0+1)))).bind fun v2=>some v2 else (yIa ((iQuo a0 10))).bind fun v4=>(yIa ((iRem a0 10))).bind fun v6=>(cat v4 v6).bind fun v8=>some v8)
def yKa(a0:Int):Option Str:=
 (bif decide (a0 < 10) then (cut (([48,49,50,51,52,53,54,55,56,57]:Str)) a0 ((w64 (a0+1)))).bind fun v2=>some v2 else (yJa ((iQuo a0 10))).bind fun v4=>(yJa ((iRem a0 10))).bind fun v6=>(cat v4 v6).bind fun v8=>some v8)
def yLa(a0:Int):Option Str:=
 (bif decide (a0 < 10) then (cut (([48,49,50,51,52,53,54,55,56,57]:Str)) a0 ((w64 (a0+1)))).bind fun v2=>some v2 else (yKa ((iQuo a0 10))).bind fun v4=>(yKa ((iRem a0 10))).bind fun v6=>(cat v4 v6).bind fun v8=>some v8)
def yMa(a0:Int):Option Str:=
 (bif decide (a0 < 10) then (cut (([48,49,50,51,52,53,54,55,56,57]:Str)) a0 ((w64 (a0+1)))).bind fun v2=>some v2 else (yLa ((iQuo a0 10))).bind fun v4=>(yLa ((iRem a0 10))).bind fun v6=>(cat v4 v6).bind fun v8=>some v8)
def yNa(a0:Int):Option Str:=
 (bif decide (a0 < 10) then (cut (([48,49,50,51,52,53,54,55,56,57]:Str)) a0 ((w64 (a0+1)))).bind fun v2=>some v2 else (yMa ((iQuo a0 10))).bind fun v4=>(yMa ((iRem a0 10))).bind fun v6=>(cat v4 v6).bind fun v8=>some v8)
def yOa(a0:Int):Option Str:=
 (bif decide (a0 < 10) then (cut (([48,49,50,51,52,53,54,55,56,57]:Str)) a0 ((w64 (a0+1)))).bind fun v2=>some v2 else (yNa ((iQuo a0 10))).bind fun v4=>(yNa ((iRem a0 10))).bind fun v6=>(cat v4 v6).bind fun v8=>some v8)
def yPa(a0:Int):Option Str:=
 (bif decide (a0 < 10) then (cut (([48,49,50,51,52,53,54,55,56,57]:Str)) a0 ((w64 (a0+1)))).bind fun v2=>some v2 else (yOa ((iQuo a0 10))).bind fun v4=>(yOa ((iRem a0 10))).bind fun v6=>(cat v4 v6).bind fun v8=>some v8)
def yQa(a0:Int):Option Str:=
 (bif decide (a0 < 10) then (cut (([48,49,50,51,52,53,54,55,56,57]:Str)) a0 ((w64 (a0+1)))).bind fun v2=>some v2 else (yPa ((iQuo a0 10))).bind fun v4=>(yPa ((iRem a0 10))).bind fun v6=>(cat v4 v6).bind fun v8=>some v8)
def yRa(a0:Int):Option Str:=
 (bif decide (a0 < 10) then (cut (([48,49,50,51,52,53,54,55,56,57]:Str)) a0 ((w64 (a0+1)))).bind fun v2=>some v2 else (yQa ((iQuo a0 10))).bind fun v4=>(yQa ((iRem a0 10))).bind fun v6=>(cat v4 v6).bind fun v8=>some v8)
def wYa(a0:Int):Option Str:=
 (bif decide (a0 < 10) then (cut (([48,49,50,51,52,53,54,55,56,57]:Str)) a0 ((w64 (a0+1)))).bind fun v2=>some v2 else (yRa ((iQuo a0 10))).bind fun v4=>(yRa ((iRem a0 10))).bind fun v6=>(cat v4 v6).bind fun v8=>some v8)
def wZa(a0:Int):Option Str:=
 (bif decide (a0 < 10) then (cut (([48,49,50,51,52,53,54,55,56,57]:Str)) a0 ((w64 (a0+1)))).bind fun v2=>some v2 else (wYa ((iQuo a0 10))).bind fun v4=>(wYa ((iRem a0 10))).bind fun v6=>(cat v4 v6).bind fun v8=>some v8)
def wNa(a0:Int):Option Str:=
 (bif decide (a0 < 10) then (cut (([48,49,50,51,52,53,54,55,56,57]:Str)) a0 ((w64 (a0+1)))).bind fun v2=>some v2 else (wZa ((iQuo a0 10))).bind fun v4=>(wZa ((iRem a0 10))).bind fun v6=>(cat v4 v6).bind fun v8=>some v8)
def wza(a0:Str)(s9:Int × Int):Option (Step (Int × Int) (Int ⊕ Int)):=
 (bif decide (s9.2 < (a0.length:Int)) then (idx a0 s9.2).bind fun v15=>(R_In ((v15.toNat:Int)) 48 57).bind fun v17=>(bif (!v17) then some (.out (.inr ((-1)))) else (idx a0 s9.2).bind fun v20=>some (.cont ((w64 ((w64 (10 * s9.1))+(((v20 - (48:UInt8))).toNat:Int))),(w64 (s9.2+1))))) else some (.out (.inl s9.1)))
noncomputable def Wha(a0:Str):Option Int:=
 ((R_In ((a0.length:Int)) 1 9).bind fun v2=>(bif (!v2) then some true else (bif decide (1 < (a0.length:Int)) then (idx a0 0).bind fun v6=>some (((v6.toNat:Int)==48)) else some false)):Option Bool).bind fun (j1:Bool)=>(bif j1 then some ((-1)) else (iter (wza a0) ((0,0))).bind (Sum.elim (fun b10=>some b10) (fun b11=>some b11)))
def q5a(l:List Str)(s:Str):Option Str:=if l.length<=140737488355328/\(Lib.join l s).length<=140737488355328 then some (Lib.join l s) else none
def sp32(x:Nat):Bool:=decide ((x:Int)=32)
def kEa(s:Str):Option (List Str):=if s.length<=4294967296 then some ((Lib.goFieldsP sp32 (strB s)).map fun b=>b.data.toList) else none
def zXa(s t:Str):Option (Str × Bool):=some (Lib.trimPrefix s t,Lib.hasPrefix s t)
def zYa(s t:Str):Option (Str × Bool):=if s.length<=9223372036854775807 then some (Lib.trimSuffix s t,Lib.hasSuffix s t) else none
def w0a(a0:zla):Option zla:=
 ((bif (a0.Verb==1) then some ((a0.Name,([]:Str),0,0,false)) else (bif (a0.Verb==2) then some ((([]:Str),a0.Address,a0.Size,0,false)) else (bif (a0.Verb==3) then some ((([]:Str),a0.Address,0,a0.Notify,false)) else (bif (a0.Verb==5) then some ((([]:Str),([]:Str),a0.Size,0,a0.Last)) else some ((([]:Str),([]:Str),0,0,false)))))):Option (Str × Str × Int × Int × Bool)).bind fun (j1:Str × Str × Int × Int × Bool)=>some ((zla.mk a0.Verb j1.1 j1.2.1 j1.2.2.1 j1.2.2.2.1 j1.2.2.2.2))
noncomputable def qHa(a0:zla):Option zra:=
 ((bif (a0.Verb==3) then some true else (bif (a0.Verb==2) then some ((a0.Address !=([]:Str))) else some false)):Option Bool).bind fun (j1:Bool)=>((bif decide (a0.Verb < 1) then some true else some (decide (8 < a0.Verb))):Option Bool).bind fun (j4:Bool)=>(bif j4 then (zta 4 ((-2))).bind fun v7=>some v7 else (w0a a0).bind fun v9=>(bif (!(vXa [(a0.Verb==v9.Verb),(a0.Name==v9.Name),(a0.Address==v9.Address),(a0.Size==v9.Size),(a0.Notify==v9.Notify),(a0.Last==v9.Last)])) then (zta 5 ((-3))).bind fun v12=>some v12 else ((bif (a0.Verb==1) then (wva a0.Name).bind fun v16=>some ((!v16)) else some false):Option Bool).bind fun (j14:Bool)=>(bif j14 then (zta 10 ((-4))).bind fun v19=>some v19 else ((bif j1 then (kda a0.Address).bind fun v23=>some ((!v23)) else some false):Option Bool).bind fun (j21:Bool)=>(bif j21 then (zta 10 ((-5))).bind fun v26=>some v26 else ((bif decide (a0.Size < 0) then some true else some (decide (1000000 < a0.Size))):Option Bool).bind fun (j28:Bool)=>(bif j28 then (zta 3 ((-6))).bind fun v31=>some v31 else (kVa a0.Notify).bind fun v33=>(bif (!v33) then (zta 3 ((-7))).bind fun v36=>some v36 else (kha).bind fun v38=>some v38))))))
def yra:Option (Str × Str × Str × Str × Str × Str × Str × Str):=
 some ((([104,101,108,108,111]:Str),([109,97,105,108]:Str),([114,99,112,116]:Str),([100,97,116,97]:Str),([99,104,117,110,107]:Str),([114,101,115,101,116]:Str),([110,111,111,112]:Str),([113,117,105,116]:Str)))
def qTa:Option (zka × zka × zka):=
 some (((zka.mk 1 (([102,97,105,108,117,114,101]:Str))),(zka.mk 2 (([100,101,108,97,121]:Str))),(zka.mk 4 (([115,117,99,99,101,115,115]:Str)))))
def wAa(a0:Int)(v1:zka × zka × zka)(s3:Int × (List Str)):Option (Step (Int × (List Str)) (List Str)):=
 (bif decide (s3.1 < 3) then ((idx ([v1.1,v1.2.1,v1.2.2]:List zka) s3.1).bind fun v8=>(bif ((iAnd a0 v8.n) !=0) then (app 8796093022208 s3.2 (([v8.word]:List Str))).bind fun v11=>some v11 else some s3.2):Option (List Str)).bind fun (j7:List Str)=>some (.cont ((w64 (s3.1+1)),j7)) else some (.out s3.2))
noncomputable def vwa(a0:Int):Option Str:=
 (qTa).bind fun v1=>(iter (wAa a0 v1) ((0,([]:List Str)))).bind fun b4=>(bif ((b4.length:Int)==0) then some (([110,101,118,101,114]:Str)) else (q5a b4 (([44]:Str))).bind fun v14=>some v14)
noncomputable def qpa(a0:Str):Option (Str × Bool):=
 (zXa a0 (([60]:Str))).bind fun v1=>(zYa v1.1 (([62]:Str))).bind fun v3=>((bif v1.2 then some v3.2 else some false):Option Bool).bind fun (j5:Bool)=>some ((v3.1,j5))
noncomputable def kPa(a0:List Str)(a1:Str):Option (Str × Bool):=
 (bif ((a0.length:Int) !=1) then some ((([]:Str),false)) else (idx a0 0).bind fun v2=>(vKa v2).bind fun v4=>(cat a1 (([61]:Str))).bind fun v6=>(zXa v4 v6).bind fun v8=>some ((v8.1,v8.2)))
noncomputable def w1a(a0:Str)(a1:Int):Option (Int × Bool):=
 (q4a a0).bind fun v1=>((bif v1.2 then some true else (z5a v1.1).bind fun v5=>(bif (v5 !=a0) then some true else (bif decide (v1.1 < 0) then some true else some (decide (a1 < v1.1))))):Option Bool).bind fun (j3:Bool)=>(bif j3 then some ((0,false)) else some ((v1.1,true)))
noncomputable def qLa(a0:Str):Option (Int × Bool):=
 (bif decide (9 < (a0.length:Int)) then some ((0,false)) else (w1a a0 999999999).bind fun v2=>some ((v2.1,v2.2)))
noncomputable def kba(a0:Str)(a1:Bool)(s1:Int):Option (Step Int (Unit ⊕ (Int × Bool))):=
 (bif decide (s1 < 8) then ((bif a1 then (vwa s1).bind fun v9=>some ((v9==a0)) else some false):Option Bool).bind fun (j7:Bool)=>(bif j7 then some (.out (.inr ((s1,true)))) else some (.cont (w64 (s1+1)))) else some (.out (.inl (()))))
noncomputable def w2a(a0:Str)(a1:Bool):Option (Int × Bool):=
 (iter (kba a0 a1) 0).bind (Sum.elim (fun b2=>some ((0,false))) (fun b3=>some ((b3.1,b3.2))))
def vxa(a0:Int)(a1:Int)(c0_0:List Str):Option Bool:=
 ((bif decide (a0<=(c0_0.length:Int)) then some (decide ((c0_0.length:Int)<=a1)) else some false):Option Bool).bind fun (j1:Bool)=>some j1
def kca(a0:Int)(j1:Bool × Bool × Str × Str × Int × Int × Bool):Option (zla × Bool):=
 ((bif j1.1 then some j1.2.1 else some false):Option Bool).bind fun (j2:Bool)=>some (((zla.mk a0 j1.2.2.1 j1.2.2.2.1 j1.2.2.2.2.1 j1.2.2.2.2.2.1 j1.2.2.2.2.2.2),j2))
noncomputable def w3a(a0:Int)(a1:List Str):Option (zla × Bool):=
 (bif (a0==1) then ((bif decide (1<=(a1.length:Int)) then some (decide ((a1.length:Int)<=1)) else some false):Option Bool).bind fun (j5:Bool)=>(bif (!j5) then some (((zla.mk a0 (([]:Str)) (([]:Str)) 0 0 false),false)) else (idx a1 0).bind fun v8=>(kca a0 (true,true,v8,([]:Str),0,0,false))) else (bif (a0==2) then ((bif decide (1<=(a1.length:Int)) then some (decide ((a1.length:Int)<=2)) else some false):Option Bool).bind fun (j11:Bool)=>(bif (!j11) then some (((zla.mk a0 (([]:Str)) (([]:Str)) 0 0 false),false)) else (idx a1 0).bind fun v14=>(qpa v14).bind fun v16=>(bif ((a1.length:Int)==2) then (cut a1 1 ((a1.length:Int))).bind fun v19=>(kPa v19 (([115,105,122,101]:Str))).bind fun v21=>(qLa v21.1).bind fun v23=>(bif v23.2 then (kca a0 (v16.2,v21.2,([]:Str),v16.1,v23.1,0,false)) else (kca a0 (v16.2,false,([]:Str),v16.1,v23.1,0,false))) else (kca a0 (v16.2,true,([]:Str),v16.1,0,0,false)))) else (bif (a0==3) then ((bif decide (1<=(a1.length:Int)) then some (decide ((a1.length:Int)<=2)) else some false):Option Bool).bind fun (j27:Bool)=>(bif (!j27) then some (((zla.mk a0 (([]:Str)) (([]:Str)) 0 0 false),false)) else (idx a1 0).bind fun v30=>(qpa v30).bind fun v32=>(bif ((a1.length:Int)==2) then (cut a1 1 ((a1.length:Int))).bind fun v35=>(kPa v35 (([110,111,116,105,102,121]:Str))).bind fun v37=>(w2a v37.1 v37.2).bind fun v39=>(kca a0 (v32.2,v39.2,([]:Str),v32.1,0,v39.1,false)) else (kca a0 (v32.2,true,([]:Str),v32.1,0,1,false)))) else (bif (a0==5) then ((bif decide (1<=(a1.length:Int)) then some (decide ((a1.length:Int)<=2)) else some false):Option Bool).bind fun (j42:Bool)=>(bif (!j42) then some (((zla.mk a0 (([]:Str)) (([]:Str)) 0 0 false),false)) else (idx a1 0).bind fun v45=>(qLa v45).bind fun v47=>(bif (!(((a1.length:Int)==2))) then (kca a0 (v47.2,true,([]:Str),([]:Str),v47.1,0,((a1.length:Int)==2))) else (idx a1 1).bind fun v50=>(vKa v50).bind fun v52=>(kca a0 (v47.2,(v52==([108,97,115,116]:Str)),([]:Str),([]:Str),v47.1,0,((a1.length:Int)==2))))) else (vxa 0 0 a1).bind fun v54=>some (((zla.mk a0 (([]:Str)) (([]:Str)) 0 0 false),v54))))))
noncomputable def k6a(v4:List Str)(v6:Str × Str × Str × Str × Str × Str × Str × Str)(s8:Int × Int):Option (Step (Int × Int) Int):=
 (bif decide (s8.2 < 8) then ((idx ([v6.1,v6.2.1,v6.2.2.1,v6.2.2.2.1,v6.2.2.2.2.1,v6.2.2.2.2.2.1,v6.2.2.2.2.2.2.1,v6.2.2.2.2.2.2.2]:List Str) s8.2).bind fun v13=>((bif decide (0 < (v4.length:Int)) then (idx v4 0).bind fun v17=>(vKa v17).bind fun v19=>some ((v19==v13)) else some false):Option Bool).bind fun (j15:Bool)=>(bif j15 then some ((w64 (s8.2+1))) else some s8.1):Option Int).bind fun (j12:Int)=>some (.cont (j12,(w64 (s8.2+1)))) else some (.out s8.1))
noncomputable def v3a(a0:Str):Option (zla × zra):=
 (bif decide (4000 < (a0.length:Int)) then (zta 1 ((-1))).bind fun v2=>some (((zla.mk 0 (([]:Str)) (([]:Str)) 0 0 false),v2)) else (kEa a0).bind fun v4=>(yra).bind fun v6=>(iter (k6a v4 v6) ((0,0))).bind fun b9=>(bif (b9==0) then (zta 18 ((-2))).bind fun v23=>some (((zla.mk 0 (([]:Str)) (([]:Str)) 0 0 false),v23)) else (cut v4 1 ((v4.length:Int))).bind fun v25=>(w3a b9 v25).bind fun v27=>(bif (!v27.2) then (zta 11 ((-3))).bind fun v30=>some (((zla.mk 0 (([]:Str)) (([]:Str)) 0 0 false),v30)) else (qHa v27.1).bind fun v32=>(zKa v32).bind fun v34=>(bif v34 then some (((zla.mk 0 (([]:Str)) (([]:Str)) 0 0 false),v32)) else (kha).bind fun v37=>some ((v27.1,v37))))))
noncomputable def jwa(a0:zla):Option zra:=
 (R_In a0.Verb 1 8).bind fun v1=>(bif (!v1) then (R_At 4 ((-2))).bind fun v4=>some v4 else ((bif (a0.Verb !=1) then (bif (a0.Name !=([]:Str)) then some true else (bif (a0.Verb !=2) then (bif (a0.Verb !=3) then (bif (a0.Address !=([]:Str)) then some true else (bif (a0.Verb !=5) then (bif (a0.Size !=0) then some true else (bif (a0.Notify !=0) then some true else some a0.Last)) else (bif (a0.Notify !=0) then some true else some false))) else (bif (a0.Verb !=5) then (bif (a0.Size !=0) then some true else some a0.Last) else some false)) else (bif (a0.Verb !=3) then (bif (a0.Notify !=0) then some true else (bif (a0.Verb !=5) then some a0.Last else some false)) else (bif (a0.Verb !=5) then some a0.Last else some false)))) else (bif (a0.Verb !=2) then (bif (a0.Verb !=3) then (bif (a0.Address !=([]:Str)) then some true else (bif (a0.Verb !=5) then (bif (a0.Size !=0) then some true else (bif (a0.Notify !=0) then some true else some a0.Last)) else (bif (a0.Notify !=0) then some true else some false))) else (bif (a0.Verb !=5) then (bif (a0.Size !=0) then some true else some a0.Last) else some false)) else (bif (a0.Verb !=3) then (bif (a0.Notify !=0) then some true else (bif (a0.Verb !=5) then some a0.Last else some false)) else (bif (a0.Verb !=5) then some a0.Last else some false)))):Option Bool).bind fun (j6:Bool)=>(bif j6 then (R_At 5 ((-3))).bind fun v36=>some v36 else ((bif (a0.Verb==1) then (Wga a0.Name).bind fun v40=>some ((!v40)) else some false):Option Bool).bind fun (j38:Bool)=>(bif j38 then (R_At 10 ((-4))).bind fun v43=>some v43 else ((bif (a0.Verb==2) then (bif (a0.Address !=([]:Str)) then (yFa a0.Address).bind fun v48=>some ((!v48)) else (bif (a0.Verb==3) then (yFa a0.Address).bind fun v51=>some ((!v51)) else some false)) else (bif (a0.Verb==3) then (yFa a0.Address).bind fun v54=>some ((!v54)) else some false)):Option Bool).bind fun (j45:Bool)=>(bif j45 then (R_At 10 ((-5))).bind fun v57=>some v57 else ((bif (a0.Verb==2) then (R_In a0.Size 0 1000000).bind fun v61=>some ((!v61)) else (bif (a0.Verb==5) then (R_In a0.Size 0 1000000).bind fun v64=>some ((!v64)) else some false)):Option Bool).bind fun (j59:Bool)=>(bif j59 then (R_At 3 ((-6))).bind fun v67=>some v67 else ((bif (a0.Verb==3) then (R_In a0.Notify 0 7).bind fun v71=>some ((!v71)) else some false):Option Bool).bind fun (j69:Bool)=>(bif j69 then (R_At 3 ((-7))).bind fun v74=>some v74 else some ((zra.mk 0 0))))))))
def yDb(a0:Int):Option Str:=
 (idx (([([104,101,108,108,111]:Str),([109,97,105,108]:Str),([114,99,112,116]:Str),([100,97,116,97]:Str),([99,104,117,110,107]:Str),([114,101,115,101,116]:Str),([110,111,111,112]:Str),([113,117,105,116]:Str)]:List Str)) ((w64 (a0 - 1)))).bind fun v1=>some v1
def ZQa(a0:Int):Option Str:=
 (idx (([([110,101,118,101,114]:Str),([102,97,105,108,117,114,101]:Str),([100,101,108,97,121]:Str),([102,97,105,108,117,114,101,44,100,101,108,97,121]:Str),([115,117,99,99,101,115,115]:Str),([102,97,105,108,117,114,101,44,115,117,99,99,101,115,115]:Str),([100,101,108,97,121,44,115,117,99,99,101,115,115]:Str),([102,97,105,108,117,114,101,44,100,101,108,97,121,44,115,117,99,99,101,115,115]:Str)]:List Str)) a0).bind fun v1=>some v1
def vla(a0:Str)(s1:Str × Int × (List Str)):Option (Step (Str × Int × (List Str)) (List Str)):=
 (bif decide (s1.2.1<=(a0.length:Int)) then (((bif decide (s1.2.1 < (a0.length:Int)) then (idx a0 s1.2.1).bind fun v8=>some (((v8.toNat:Int) !=32)) else some false):Option Bool).bind fun (j6:Bool)=>(bif j6 then (cut a0 s1.2.1 ((w64 (s1.2.1+1)))).bind fun v11=>(cat s1.1 v11).bind fun v13=>some ((v13,s1.2.2)) else ((bif (s1.1 !=([]:Str)) then (app 8796093022208 s1.2.2 (([s1.1]:List Str))).bind fun v17=>some v17 else some s1.2.2):Option (List Str)).bind fun (j15:List Str)=>some ((([]:Str),j15))):Option (Str × (List Str))).bind fun (j5:Str × (List Str))=>some (.cont (j5.1,(w64 (s1.2.1+1)),j5.2)) else some (.out s1.2.2))
noncomputable def qsb(a0:Str):Option (List Str):=
 (iter (vla a0) ((([]:Str),0,([]:List Str)))).bind fun b2=>some b2
noncomputable def Q8a(a0:Str)(a1:Str):Option (Str × Bool):=
 (WLa a0).bind fun v1=>((bif decide ((v1.length:Int) < (a1.length:Int)) then some true else (cut v1 0 ((a1.length:Int))).bind fun v5=>some ((v5 !=a1))):Option Bool).bind fun (j3:Bool)=>(bif j3 then some ((([]:Str),false)) else (cut v1 ((a1.length:Int)) ((v1.length:Int))).bind fun v8=>some ((v8,true)))
noncomputable def qMa(v4:List Str)(s6:Int × Int):Option (Step (Int × Int) Int):=
 ((bif decide (s6.1<=8) then some (decide (0 < (v4.length:Int))) else some false):Option Bool).bind fun (j9:Bool)=>(bif j9 then ((idx v4 0).bind fun v13=>(WLa v13).bind fun v15=>(yDb s6.1).bind fun v17=>(bif (v15==v17) then some s6.1 else some s6.2):Option Int).bind fun (j12:Int)=>some (.cont ((w64 (s6.1+1)),j12)) else some (.out s6.2))
noncomputable def qNa(b7:Int)(j34:Str × Str × Int)(j37:Int × Int × Bool):Option (zla × zra):=
 (jwa ((zla.mk b7 j34.1 j34.2.1 j37.1 j37.2.1 j37.2.2))).bind fun v38=>(bif (v38.Code !=0) then some (((zla.mk 0 (([]:Str)) (([]:Str)) 0 0 false),v38)) else some (((zla.mk b7 j34.1 j34.2.1 j37.1 j37.2.1 j37.2.2),v38)))
def qOa(v54:Str × Bool)(s56:Bool × Int × Int):Option (Step (Bool × Int × Int) (Bool × Int)):=
 ((bif decide (s56.2.1 < 8) then some v54.2 else some false):Option Bool).bind fun (j59:Bool)=>(bif j59 then ((ZQa s56.2.1).bind fun v63=>(bif (v63==v54.1) then some ((true,s56.2.1)) else some ((s56.1,s56.2.2))):Option (Bool × Int)).bind fun (j62:Bool × Int)=>some (.cont (j62.1,(w64 (s56.2.1+1)),j62.2)) else some (.out ((s56.1,s56.2.2))))
noncomputable def kya(b7:Int)(v23:zra)(v25:List Str)(j34:Str × Str × Int):Option (zla × zra):=
 ((bif (b7==3) then some 1 else some 0):Option Int).bind fun (j35:Int)=>(bif ((v25.length:Int)==2) then ((bif (b7==2) then (idx v25 1).bind fun v44=>(Q8a v44 (([115,105,122,101,61]:Str))).bind fun v46=>(Wha v46.1).bind fun v48=>(bif v46.2 then some ((decide (0<=v48),v48,j35,false)) else some ((false,v48,j35,false))) else (bif (b7==3) then (idx v25 1).bind fun v52=>(Q8a v52 (([110,111,116,105,102,121,61]:Str))).bind fun v54=>(iter (qOa v54) ((false,0,j35))).bind fun b57=>some ((b57.1,j34.2.2,b57.2,false)) else (bif (b7==5) then (idx v25 1).bind fun v67=>(WLa v67).bind fun v69=>some (((v69==([108,97,115,116]:Str)),j34.2.2,j35,true)) else some ((false,j34.2.2,j35,false))))):Option (Bool × Int × Int × Bool)).bind fun (j42:Bool × Int × Int × Bool)=>(bif (!j42.1) then some (((zla.mk 0 (([]:Str)) (([]:Str)) 0 0 false),v23)) else (qNa b7 j34 (j42.2.1,j42.2.2.1,j42.2.2.2))) else (qNa b7 j34 (j34.2.2,j35,false)))
noncomputable def KZa(a0:Str):Option (zla × zra):=
 (bif decide (4000 < (a0.length:Int)) then (R_At 1 ((-1))).bind fun v2=>some (((zla.mk 0 (([]:Str)) (([]:Str)) 0 0 false),v2)) else (qsb a0).bind fun v4=>(iter (qMa v4) ((1,0))).bind fun b7=>(bif (b7==0) then (R_At 18 ((-2))).bind fun v21=>some (((zla.mk 0 (([]:Str)) (([]:Str)) 0 0 false),v21)) else (R_At 11 ((-3))).bind fun v23=>(cut v4 1 ((v4.length:Int))).bind fun v25=>(idx (([1,1,1,0,1,0,0,0]:List Int)) ((w64 (b7 - 1)))).bind fun v27=>(idx (([1,2,2,0,2,0,0,0]:List Int)) ((w64 (b7 - 1)))).bind fun v29=>(R_In ((v25.length:Int)) v27 v29).bind fun v31=>(bif (!v31) then some (((zla.mk 0 (([]:Str)) (([]:Str)) 0 0 false),v23)) else (bif (b7==1) then (idx v25 0).bind fun v73=>(kya b7 v23 v25 (v73,([]:Str),0)) else ((bif (b7==2) then some true else some ((b7==3))):Option Bool).bind fun (j75:Bool)=>(bif j75 then (idx v25 0).bind fun v78=>((bif decide ((v78.length:Int) < 2) then some true else (idx v25 0).bind fun v82=>(idx v82 0).bind fun v84=>(bif ((v84.toNat:Int) !=60) then some true else (idx v25 0).bind fun v87=>(idx v87 ((w64 ((v78.length:Int) - 1)))).bind fun v89=>some (((v89.toNat:Int) !=62)))):Option Bool).bind fun (j80:Bool)=>(bif j80 then some (((zla.mk 0 (([]:Str)) (([]:Str)) 0 0 false),v23)) else (idx v25 0).bind fun v92=>(cut v92 1 ((w64 ((v78.length:Int) - 1)))).bind fun v94=>(kya b7 v23 v25 (([]:Str),v94,0))) else (bif (b7==5) then (idx v25 0).bind fun v97=>(Wha v97).bind fun v99=>(bif decide (v99 < 0) then some (((zla.mk 0 (([]:Str)) (([]:Str)) 0 0 false),v23)) else (kya b7 v23 v25 (([]:Str),([]:Str),v99))) else (kya b7 v23 v25 (([]:Str),([]:Str),0))))))))
noncomputable def v4a(a0:zxa):Option ((List UInt8) × zra):=
 (kGa a0).bind fun v1=>(zKa v1).bind fun v3=>(bif v3 then some (([],v1)) else (vha a0).bind fun v6=>(kha).bind fun v8=>some ((v6,v8)))
def kna(c:UInt8):UInt8:=if c=0∨c=13 then 32 else c
def zVa(s:Str):Option Str:=if s.length<=4611686018427387904 then some (s.map kna) else none
def vfb(t:Str):Bool:=t.all fun b=>decide (b.toNat < 128)
def w4a(s t:Str):Option Str:=if s.length<=9223372036854775807/\t.length < 4294967281/\vfb t=true then some (Lib.trimS s t) else none
def qqa(s t:Str):Option Str:=if s.length<=9223372036854775807/\t.length < 4294967281/\vfb t=true then some (Lib.trimRightS s t) else none
def qra(l:List UInt8)(c:UInt8):Option Int:=some (Lib.indexByte l c)
def kHa(a0:List UInt8)(a1:List UInt8):Option (List UInt8):=
 (kCa a0 a1).bind fun v1=>(bif v1 then (cut a0 0 ((w64 ((a0.length:Int) - (a1.length:Int))))).bind fun v4=>some v4 else some a0)
def ySa(a0:List UInt8):Option (Str × Int):=
 (qra a0 ((10:UInt8))).bind fun v1=>(bif decide (v1 < 0) then some ((a0,(a0.length:Int))) else (cut a0 0 v1).bind fun v4=>(kHa v4 (([(13:UInt8)]:List UInt8))).bind fun v6=>some ((v6,(w64 (v1+1)))))
noncomputable def v5a(a0:Str):Option (zia × Bool):=
 (qAa a0 (([58]:Str))).bind fun v1=>(qqa v1.1 (([32,9]:Str))).bind fun v3=>((bif v1.2.2 then (wya v3).bind fun v7=>some v7 else some false):Option Bool).bind fun (j5:Bool)=>some (((zia.mk v3 v1.2.1),j5))
noncomputable def vya(a0:List UInt8)(s4:Int × (List zia)):Option (Step (Int × (List zia)) (Int × (List zia))):=
 (bif decide (s4.1 < (a0.length:Int)) then (cut a0 s4.1 ((a0.length:Int))).bind fun v8=>(ySa v8).bind fun v10=>(bif (v10.1==([]:Str)) then some (.out (((w64 (s4.1+v10.2)),s4.2))) else ((idx v10.1 0).bind fun v14=>(qBa v14).bind fun v16=>(bif v16 then some (decide (0 < (s4.2.length:Int))) else some false):Option Bool).bind fun (j13:Bool)=>(bif j13 then (idx s4.2 ((w64 ((s4.2.length:Int) - 1)))).bind fun v20=>(idx s4.2 ((w64 ((s4.2.length:Int) - 1)))).bind fun v22=>(cat v22.Value v10.1).bind fun v24=>(idx s4.2 ((w64 ((s4.2.length:Int) - 1)))).bind fun v26=>(idx s4.2 ((w64 ((s4.2.length:Int) - 1)))).bind fun v28=>some (.cont ((w64 (s4.1+v10.2)),(List.set s4.2 (Int.toNat ((w64 ((s4.2.length:Int) - 1)))) ((zia.mk v28.Name v24))))) else (v5a v10.1).bind fun v30=>(bif (!v30.2) then some (.out ((s4.1,s4.2))) else (app 4398046511104 s4.2 (([v30.1]:List zia))).bind fun v33=>some (.cont ((w64 (s4.1+v10.2)),v33))))) else some (.out ((s4.1,s4.2))))
def vza(b5:Int × (List zia))(s38:Int × (List zia)):Option (Step (Int × (List zia)) ((List zia) ⊕ ((List zia) × Int × zra))):=
 (bif decide (s38.1 < (b5.2.length:Int)) then (idx s38.2 s38.1).bind fun v44=>(idx s38.2 s38.1).bind fun v46=>(zVa v46.Value).bind fun v48=>(w4a v48 (([32,9]:Str))).bind fun v50=>(bif decide (4000 < (v50.length:Int)) then (zta 1 s38.1).bind fun v53=>some (.out (.inr (([],0,v53)))) else (idx s38.2 s38.1).bind fun v55=>(idx s38.2 s38.1).bind fun v57=>some (.cont ((w64 (s38.1+1)),(List.set s38.2 (Int.toNat s38.1) ((zia.mk v57.Name v50)))))) else some (.out (.inl s38.2)))
noncomputable def Zaa(a0:List UInt8):Option ((List zia) × Int × zra):=
 (bif decide (12000 < (a0.length:Int)) then (zta 1 ((-1))).bind fun v2=>some (([],0,v2)) else (iter (vya a0) ((0,([]:List zia)))).bind fun b5=>(bif decide (60 < (b5.2.length:Int)) then (zta 2 ((-2))).bind fun v36=>some (([],0,v36)) else (iter (vza b5) ((0,b5.2))).bind (Sum.elim (fun b39=>(kha).bind fun v59=>some ((b39,b5.1,v59))) (fun b40=>some ((b40.1,b40.2.1,b40.2.2))))))
def qIa(a0:List UInt8)(s1:Int × (List UInt8)):Option (Step (Int × (List UInt8)) (List UInt8)):=
 (bif decide (s1.1 < (a0.length:Int)) then (((idx a0 s1.1).bind fun v7=>(bif ((v7.toNat:Int)==13) then (bif decide ((w64 (s1.1+1)) < (a0.length:Int)) then (idx a0 ((w64 (s1.1+1)))).bind fun v11=>some (((v11.toNat:Int)==10)) else some false) else some false):Option Bool).bind fun (j6:Bool)=>(bif j6 then (app 140737488355328 s1.2 (([(13:UInt8),(10:UInt8)]:List UInt8))).bind fun v14=>some (((w64 (s1.1+1)),v14)) else ((idx a0 s1.1).bind fun v17=>(bif ((v17.toNat:Int)==13) then some true else (idx a0 s1.1).bind fun v20=>some (((v20.toNat:Int)==10))):Option Bool).bind fun (j16:Bool)=>(bif j16 then (app 140737488355328 s1.2 (([(13:UInt8),(10:UInt8)]:List UInt8))).bind fun v23=>some ((s1.1,v23)) else (idx a0 s1.1).bind fun v25=>(app 140737488355328 s1.2 (([v25]:List UInt8))).bind fun v27=>some ((s1.1,v27)))):Option (Int × (List UInt8))).bind fun (j5:Int × (List UInt8))=>some (.cont ((w64 (j5.1+1)),j5.2)) else some (.out s1.2))
noncomputable def v6a(a0:List UInt8):Option (List UInt8):=
 (iter (qIa a0) ((0,([]:List UInt8)))).bind fun b2=>some b2
noncomputable def w5a(a0:List UInt8):Option (zxa × zra):=
 (Zaa a0).bind fun v1=>(zKa v1.2.2).bind fun v3=>(bif v3 then some (((zxa.mk ([]) ([])),v1.2.2)) else (cut a0 v1.2.1 ((a0.length:Int))).bind fun v6=>(v6a v6).bind fun v8=>(kGa ((zxa.mk v1.1 v8))).bind fun v10=>(zKa v10).bind fun v12=>(bif v12 then some (((zxa.mk ([]) ([])),v10)) else (kha).bind fun v15=>some (((zxa.mk v1.1 v8),v15))))
def Zba(a0:List UInt8)(s1:Int):Option (Step Int (Unit ⊕ (Str × Int))):=
 (bif decide (s1 < (a0.length:Int)) then (idx a0 s1).bind fun v7=>(bif ((v7.toNat:Int) !=10) then some (.cont (w64 (s1+1))) else ((bif decide (0 < s1) then (idx a0 ((w64 (s1 - 1)))).bind fun v12=>some (((v12.toNat:Int)==13)) else some false):Option Bool).bind fun (j10:Bool)=>(bif j10 then (cut a0 0 ((w64 (s1 - 1)))).bind fun v15=>some (.out (.inr ((v15,(w64 (s1+1)))))) else (cut a0 0 s1).bind fun v17=>some (.out (.inr ((v17,(w64 (s1+1)))))))) else some (.out (.inl (()))))
noncomputable def Q9a(a0:List UInt8):Option (Str × Int):=
 (iter (Zba a0) 0).bind (Sum.elim (fun b2=>some ((a0,(a0.length:Int)))) (fun b3=>some ((b3.1,b3.2))))
def w6a(a0:Str)(s1:Int × (List UInt8)):Option (Step (Int × (List UInt8)) (List UInt8)):=
 (bif decide (s1.1 < (a0.length:Int)) then (idx a0 s1.1).bind fun v5=>(((bif ((v5.toNat:Int)==0) then some true else some (((v5.toNat:Int)==13))):Option Bool).bind fun (j8:Bool)=>(bif j8 then some ((32:UInt8)) else some v5):Option UInt8).bind fun (j7:UInt8)=>(app 140737488355328 s1.2 (([j7]:List UInt8))).bind fun v11=>some (.cont ((w64 (s1.1+1)),v11)) else some (.out s1.2))
def jfa(s13:List UInt8):Option (Step (List UInt8) (List UInt8)):=
 ((bif decide (0 < (s13.length:Int)) then (idx s13 0).bind fun v18=>(vqa v18).bind fun v20=>some v20 else some false):Option Bool).bind fun (j16:Bool)=>(bif j16 then (cut s13 1 ((s13.length:Int))).bind fun v23=>some (.cont v23) else some (.out s13))
def jga(s26:List UInt8):Option (Step (List UInt8) (List UInt8)):=
 ((bif decide (0 < (s26.length:Int)) then (idx s26 ((w64 ((s26.length:Int) - 1)))).bind fun v31=>(vqa v31).bind fun v33=>some v33 else some false):Option Bool).bind fun (j29:Bool)=>(bif j29 then (cut s26 0 ((w64 ((s26.length:Int) - 1)))).bind fun v36=>some (.cont v36) else some (.out s26))
noncomputable def WMa(a0:Str):Option Str:=
 (iter (w6a a0) ((0,([]:List UInt8)))).bind fun b2=>(iter (jfa) b2).bind fun b14=>(iter (jga) b14).bind fun b27=>some b27
def jPa(a0:Str)(s10:Int):Option (Step Int Int):=
 ((bif decide (0 < s10) then (idx a0 ((w64 (s10 - 1)))).bind fun v15=>(vqa v15).bind fun v17=>some v17 else some false):Option Bool).bind fun (j13:Bool)=>(bif j13 then some (.cont (w64 (s10 - 1))) else some (.out s10))
noncomputable def Vaa(a0:Str)(s1:Int):Option (Step Int (Unit ⊕ (Str × Str))):=
 (bif decide (s1 < (a0.length:Int)) then (idx a0 s1).bind fun v7=>(bif ((v7.toNat:Int) !=58) then some (.cont (w64 (s1+1))) else (iter (jPa a0) s1).bind fun b11=>(cut a0 0 b11).bind fun v20=>(j9a ((zia.mk v20 (([]:Str))))).bind fun v22=>(bif (v22==0) then (cut a0 0 b11).bind fun v25=>(cut a0 ((w64 (s1+1))) ((a0.length:Int))).bind fun v27=>some (.out (.inr ((v25,v27)))) else some (.out (.inr ((([]:Str),([]:Str))))))) else some (.out (.inl (()))))
noncomputable def qtb(a0:Str):Option (Str × Str):=
 (iter (Vaa a0) 0).bind (Sum.elim (fun b2=>some ((([]:Str),([]:Str)))) (fun b3=>some ((b3.1,b3.2))))
noncomputable def wOa(a0:List UInt8)(s1:Int × (List zia)):Option (Step (Int × (List zia)) (Int × (List zia))):=
 (bif decide (s1.1 < (a0.length:Int)) then (cut a0 s1.1 ((a0.length:Int))).bind fun v5=>(Q9a v5).bind fun v7=>(bif (v7.1==([]:Str)) then some (.out (((w64 (s1.1+v7.2)),s1.2))) else ((idx v7.1 0).bind fun v11=>(vqa v11).bind fun v13=>(bif v13 then some (((w64 ((s1.2.length:Int) - 1)),decide (0<=(w64 ((s1.2.length:Int) - 1))))) else some (((w64 ((s1.2.length:Int) - 1)),false))):Option (Int × Bool)).bind fun (j10:Int × Bool)=>(bif j10.2 then (idx s1.2 j10.1).bind fun v17=>(idx s1.2 j10.1).bind fun v19=>(cat v19.Value v7.1).bind fun v21=>(idx s1.2 j10.1).bind fun v23=>(idx s1.2 j10.1).bind fun v25=>some (.cont ((w64 (s1.1+v7.2)),(List.set s1.2 (Int.toNat j10.1) ((zia.mk v25.Name v21))))) else (qtb v7.1).bind fun v27=>(bif (v27.1==([]:Str)) then some (.out ((s1.1,s1.2))) else (app 4398046511104 s1.2 (([(zia.mk v27.1 v27.2)]:List zia))).bind fun v30=>some (.cont ((w64 (s1.1+v7.2)),v30))))) else some (.out ((s1.1,s1.2))))
noncomputable def wPa(s33:Int × (List zia)):Option (Step (Int × (List zia)) (List zia)):=
 (bif decide (s33.1 < (s33.2.length:Int)) then (idx s33.2 s33.1).bind fun v37=>(idx s33.2 s33.1).bind fun v39=>(WMa v39.Value).bind fun v41=>(idx s33.2 s33.1).bind fun v43=>(idx s33.2 s33.1).bind fun v45=>some (.cont ((w64 (s33.1+1)),(List.set s33.2 (Int.toNat s33.1) ((zia.mk v45.Name v41))))) else some (.out s33.2))
def vAa(a0:List UInt8)(s47:Int × (List UInt8)):Option (Step (Int × (List UInt8)) (List UInt8)):=
 (bif decide (s47.1 < (a0.length:Int)) then (((idx a0 s47.1).bind fun v53=>(bif ((v53.toNat:Int)==13) then some true else (idx a0 s47.1).bind fun v56=>some (((v56.toNat:Int)==10))):Option Bool).bind fun (j52:Bool)=>(bif j52 then (app 140737488355328 s47.2 (([(13:UInt8),(10:UInt8)]:List UInt8))).bind fun v59=>(((idx a0 s47.1).bind fun v63=>(bif ((v63.toNat:Int)==13) then (bif decide ((w64 (s47.1+1)) < (a0.length:Int)) then (idx a0 ((w64 (s47.1+1)))).bind fun v67=>some (((v67.toNat:Int)==10)) else some false) else some false):Option Bool).bind fun (j62:Bool)=>(bif j62 then some ((w64 (s47.1+1))) else some s47.1):Option Int).bind fun (j61:Int)=>some ((j61,v59)) else (idx a0 s47.1).bind fun v70=>(app 140737488355328 s47.2 (([v70]:List UInt8))).bind fun v72=>some ((s47.1,v72))):Option (Int × (List UInt8))).bind fun (j51:Int × (List UInt8))=>some (.cont ((w64 (j51.1+1)),j51.2)) else some (.out s47.2))
noncomputable def K0a(a0:List UInt8):Option (zxa × Bool):=
 (iter (wOa a0) ((0,([]:List zia)))).bind fun b2=>(bif decide (60 < (b2.2.length:Int)) then some (((zxa.mk ([]) ([])),false)) else (iter (wPa) ((0,b2.2))).bind fun b34=>(iter (vAa a0) ((b2.1,([]:List UInt8)))).bind fun b48=>(jva ((zxa.mk b34 b48))).bind fun v74=>(bif (v74.Code !=0) then some (((zxa.mk ([]) ([])),false)) else some (((zxa.mk b34 b48),true))))
noncomputable def kTa(a0:Str)(a1:Int)(a2:Int):Option zra:=
 ((wva a0).bind fun v2=>(bif (!v2) then some true else some (decide (40 < (a0.length:Int)))):Option Bool).bind fun (j1:Bool)=>(bif j1 then (zta 10 ((-20))).bind fun v6=>some v6 else ((bif decide (a1 < 1) then some true else some (decide (12000 < a1))):Option Bool).bind fun (j8:Bool)=>(bif j8 then (zta 3 ((-21))).bind fun v11=>some v11 else ((bif decide (a2 < 1) then some true else some (decide (60 < a2))):Option Bool).bind fun (j13:Bool)=>(bif j13 then (zta 3 ((-22))).bind fun v16=>some v16 else (kha).bind fun v18=>some v18)))
noncomputable def ywa(a0:Str)(a1:Int)(a2:Int):Option (zha × zna × zra):=
 (kTa a0 a1 a2).bind fun v1=>(zKa v1).bind fun v3=>(bif v3 then some (((zha.mk (([]:Str)) 0 0 0 false false (([]:Str)) ([]) ([]) ([]) 0 0 false 0 false false 0),(zna.mk 0 ([])),v1)) else (kha).bind fun v6=>some (((zha.mk a0 a1 a2 0 false false (([]:Str)) ([]) ([]) ([]) 0 0 false 0 false false 0),(zna.mk 220 (([a0]:List Str))),v6)))
def kQa(a0:Int)(a1:Int)(a2:Int):Option Bool:=
 ((bif decide (a1<=a0) then some (decide (a0<=a2)) else some false):Option Bool).bind fun (j1:Bool)=>some j1
def vBa(a0:List UInt8)(a1:List UInt8):Option Bool:=
 (j6a a0 a1).bind fun v1=>some ((v1 !=(-1)))
def w7a(a0:zha):Option Bool:=
 ((bif (a0.Left==0) then (bif (!a0.Last) then some ((!a0.Ignore)) else some false) else some false):Option Bool).bind fun (j1:Bool)=>(bif (a0.Phase==0) then ((bif decide ((a0.Buffer.length:Int) < 4002) then (vBa a0.Buffer (([(13:UInt8),(10:UInt8)]:List UInt8))).bind fun v7=>(bif (!v7) then (bif (a0.Dots==0) then some j1 else some false) else some false) else some false):Option Bool).bind fun (j5:Bool)=>some j5 else (bif (a0.Phase==1) then ((bif decide (0 < (a0.To.length:Int)) then (bif (!a0.Chunked) then (bif ((a0.Buffer.length:Int)==0) then (kQa a0.Dots 0 4).bind fun v16=>(bif v16 then some j1 else some false) else some false) else some false) else some false):Option Bool).bind fun (j12:Bool)=>some j12 else (bif (a0.Phase==2) then ((bif (a0.Ignore==((a0.To.length:Int)==0)) then (bif (a0.Ignore==(!a0.Chunked)) then (bif ((a0.Buffer.length:Int)==0) then (bif (a0.Dots==0) then (kQa a0.Left 1 1000000).bind fun v25=>some v25 else some false) else some false) else some false) else some false):Option Bool).bind fun (j20:Bool)=>some j20 else (bif (a0.Phase==3) then ((bif (!a0.Mailing) then (bif ((a0.Buffer.length:Int)==0) then (bif (a0.Dots==0) then some j1 else some false) else some false) else some false):Option Bool).bind fun (j28:Bool)=>some j28 else some false))))
noncomputable def v7a(a0:zha):Option Bool:=
 ((bif (a0.From !=([]:Str)) then (kda a0.From).bind fun v3=>(bif (!v3) then some true else (bif decide (a0.Many < (a0.To.length:Int)) then some true else (kfa a0.To).bind fun v7=>(zKa v7).bind fun v9=>some v9)) else (bif decide (a0.Many < (a0.To.length:Int)) then some true else (kfa a0.To).bind fun v12=>(zKa v12).bind fun v14=>some v14)):Option Bool).bind fun (j1:Bool)=>(bif j1 then some false else ((bif (!a0.Greeted) then (bif a0.Mailing then some true else (bif (!a0.Mailing) then (bif (a0.From !=([]:Str)) then some true else (bif decide (0 < (a0.To.length:Int)) then some true else (bif a0.Chunked then some (((a0.To.length:Int)==0)) else some false))) else (bif a0.Chunked then some (((a0.To.length:Int)==0)) else some false))) else (bif (!a0.Mailing) then (bif (a0.From !=([]:Str)) then some true else (bif decide (0 < (a0.To.length:Int)) then some true else (bif a0.Chunked then some (((a0.To.length:Int)==0)) else some false))) else (bif a0.Chunked then some (((a0.To.length:Int)==0)) else some false))):Option Bool).bind fun (j17:Bool)=>(bif j17 then some false else ((bif decide (a0.Size < (a0.Data.length:Int)) then some true else (kQa a0.Lost 0 1099511627776).bind fun v33=>(bif (!v33) then some true else (kQa a0.Count 0 1000000).bind fun v36=>some ((!v36)))):Option Bool).bind fun (j31:Bool)=>(bif j31 then some false else ((bif decide (0 < (a0.Data.length:Int)) then (bif (!a0.Chunked) then some ((a0.Phase !=1)) else some false) else (bif decide (0 < a0.Lost) then (bif (!a0.Chunked) then some ((a0.Phase !=1)) else some false) else some false)):Option Bool).bind fun (j39:Bool)=>(bif j39 then some false else (w7a a0).bind fun v45=>some v45))))
noncomputable def zqa(a0:List zca):Option (List zca):=
 (nilE a0.isEmpty (some ([])) ((app 5864062014805 ([]:List zca) a0).bind fun v2=>some v2))
noncomputable def kta(a0:List UInt8):Option (List UInt8):=
 (nilE a0.isEmpty (some ([])) ((app 140737488355328 ([]:List UInt8) a0).bind fun v2=>some v2))
def qsa(a0:List UInt8)(a1:List UInt8):Option ((List UInt8) × Bool):=
 (kCa a0 a1).bind fun v1=>(bif (!v1) then some ((a0,false)) else (cut a0 0 ((w64 ((a0.length:Int) - (a1.length:Int))))).bind fun v4=>some ((v4,true)))
def zoa(a0:zea)(a1:Int)(a2:List Str):Option zea:=
 (app 4398046511104 a0.replies (([(zna.mk a1 a2)]:List zna))).bind fun v1=>some ((zea.mk a0.Server v1 a0.mails))
def zUa(a0:zea):Option zea:=
 some ((zea.mk ((zha.mk a0.Server.Name a0.Server.Size a0.Server.Many a0.Server.Phase a0.Server.Greeted false (([]:Str)) ([]) a0.Server.Buffer (([]:List UInt8)) 0 a0.Server.Dots false a0.Server.Left a0.Server.Last a0.Server.Ignore a0.Server.Count)) a0.replies a0.mails))
def kJa(a0:zea):Option zea:=
 (zUa a0).bind fun v1=>some ((zea.mk ((zha.mk v1.Server.Name v1.Server.Size v1.Server.Many 3 v1.Server.Greeted v1.Server.Mailing v1.Server.From v1.Server.To (([]:List UInt8)) v1.Server.Data v1.Server.Lost v1.Server.Dots v1.Server.Chunked v1.Server.Left v1.Server.Last v1.Server.Ignore v1.Server.Count)) v1.replies v1.mails))
noncomputable def kja(a0:zea)(a1:zla):Option zea:=
 (zqa a0.Server.To).bind fun v1=>(app 5864062014805 v1 (([(zca.mk a1.Address a1.Notify)]:List zca))).bind fun v3=>(vua v3).bind fun v5=>((bif (!a0.Server.Mailing) then some true else some a0.Server.Chunked):Option Bool).bind fun (j7:Bool)=>(bif j7 then (zoa a0 503 (([([111,114,100,101,114]:Str)]:List Str))).bind fun v10=>some v10 else (bif decide (a0.Server.Many < (v5.1.length:Int)) then (zoa a0 452 (([([109,97,110,121]:Str)]:List Str))).bind fun v13=>some v13 else (zoa ((zea.mk ((zha.mk a0.Server.Name a0.Server.Size a0.Server.Many a0.Server.Phase a0.Server.Greeted a0.Server.Mailing a0.Server.From v5.1 a0.Server.Buffer a0.Server.Data a0.Server.Lost a0.Server.Dots a0.Server.Chunked a0.Server.Left a0.Server.Last a0.Server.Ignore a0.Server.Count)) a0.replies a0.mails)) 250 (([([111,107]:Str)]:List Str))).bind fun v15=>some v15))
noncomputable def zZa(a0:zea):Option zea:=
 (w5a a0.Server.Data).bind fun v1=>((bif decide (0 < a0.Server.Lost) then (zoa a0 552 (([([108,97,114,103,101]:Str)]:List Str))).bind fun v5=>some v5 else ((zKa v1.2).bind fun v8=>(bif v8 then some true else some ((a0.Server.Count==1000000))):Option Bool).bind fun (j7:Bool)=>(bif j7 then (zoa a0 554 (([([114,101,102,117,115,101,100]:Str)]:List Str))).bind fun v12=>some v12 else (cat a0.Server.Name (([45]:Str))).bind fun v14=>(z5a ((w64 (a0.Server.Count+1)))).bind fun v16=>(cat v14 v16).bind fun v18=>(zqa a0.Server.To).bind fun v20=>(app 1353245080339 a0.mails (([(zwa.mk ((kaa.mk a0.Server.From v20 v18)) v1.1)]:List zwa))).bind fun v22=>(zoa ((zea.mk ((zha.mk a0.Server.Name a0.Server.Size a0.Server.Many a0.Server.Phase a0.Server.Greeted a0.Server.Mailing a0.Server.From a0.Server.To a0.Server.Buffer a0.Server.Data a0.Server.Lost a0.Server.Dots a0.Server.Chunked a0.Server.Left a0.Server.Last a0.Server.Ignore ((w64 (a0.Server.Count+1))))) a0.replies v22)) 250 (([v18]:List Str))).bind fun v24=>some v24)):Option zea).bind fun (j3:zea)=>(zUa j3).bind fun v26=>some v26
noncomputable def z8a(a0:zea):Option zea:=
 (bif a0.Server.Ignore then (zoa ((zea.mk ((zha.mk a0.Server.Name a0.Server.Size a0.Server.Many 0 a0.Server.Greeted a0.Server.Mailing a0.Server.From a0.Server.To a0.Server.Buffer a0.Server.Data a0.Server.Lost a0.Server.Dots a0.Server.Chunked a0.Server.Left false false a0.Server.Count)) a0.replies a0.mails)) 503 (([([111,114,100,101,114]:Str)]:List Str))).bind fun v2=>some v2 else (bif a0.Server.Last then (zZa ((zea.mk ((zha.mk a0.Server.Name a0.Server.Size a0.Server.Many 0 a0.Server.Greeted a0.Server.Mailing a0.Server.From a0.Server.To a0.Server.Buffer a0.Server.Data a0.Server.Lost a0.Server.Dots a0.Server.Chunked a0.Server.Left false false a0.Server.Count)) a0.replies a0.mails))).bind fun v5=>some v5 else (zoa ((zea.mk ((zha.mk a0.Server.Name a0.Server.Size a0.Server.Many 0 a0.Server.Greeted a0.Server.Mailing a0.Server.From a0.Server.To a0.Server.Buffer a0.Server.Data a0.Server.Lost a0.Server.Dots a0.Server.Chunked a0.Server.Left false false a0.Server.Count)) a0.replies a0.mails)) 250 (([([111,107]:Str)]:List Str))).bind fun v7=>some v7))
noncomputable def kua(a0:zea)(a1:zla):Option zea:=
 (bif (a1.Verb==1) then (zUa a0).bind fun v2=>(z5a v2.Server.Size).bind fun v4=>(cat (([115,105,122,101,32]:Str)) v4).bind fun v6=>(z5a v2.Server.Many).bind fun v8=>(cat (([114,101,99,105,112,105,101,110,116,115,32]:Str)) v8).bind fun v10=>(zoa ((zea.mk ((zha.mk v2.Server.Name v2.Server.Size v2.Server.Many v2.Server.Phase true v2.Server.Mailing v2.Server.From v2.Server.To v2.Server.Buffer v2.Server.Data v2.Server.Lost v2.Server.Dots v2.Server.Chunked v2.Server.Left v2.Server.Last v2.Server.Ignore v2.Server.Count)) v2.replies v2.mails)) 250 (([v2.Server.Name,v6,v10]:List Str))).bind fun v12=>some v12 else (bif (a1.Verb==2) then ((bif (!a0.Server.Greeted) then some true else some a0.Server.Mailing):Option Bool).bind fun (j15:Bool)=>(bif j15 then (zoa a0 503 (([([111,114,100,101,114]:Str)]:List Str))).bind fun v18=>some v18 else (bif decide (a0.Server.Size < a1.Size) then (zoa a0 552 (([([108,97,114,103,101]:Str)]:List Str))).bind fun v21=>some v21 else (zoa ((zea.mk ((zha.mk a0.Server.Name a0.Server.Size a0.Server.Many a0.Server.Phase a0.Server.Greeted true a1.Address a0.Server.To a0.Server.Buffer a0.Server.Data a0.Server.Lost a0.Server.Dots a0.Server.Chunked a0.Server.Left a0.Server.Last a0.Server.Ignore a0.Server.Count)) a0.replies a0.mails)) 250 (([([111,107]:Str)]:List Str))).bind fun v23=>some v23)) else (bif (a1.Verb==3) then (kja a0 a1).bind fun v26=>some v26 else (bif (a1.Verb==4) then ((bif ((a0.Server.To.length:Int)==0) then some true else some a0.Server.Chunked):Option Bool).bind fun (j29:Bool)=>(bif j29 then (zoa a0 503 (([([111,114,100,101,114]:Str)]:List Str))).bind fun v32=>some v32 else (zoa ((zea.mk ((zha.mk a0.Server.Name a0.Server.Size a0.Server.Many 1 a0.Server.Greeted a0.Server.Mailing a0.Server.From a0.Server.To a0.Server.Buffer a0.Server.Data a0.Server.Lost a0.Server.Dots a0.Server.Chunked a0.Server.Left a0.Server.Last a0.Server.Ignore a0.Server.Count)) a0.replies a0.mails)) 354 (([([103,111,32,111,110]:Str)]:List Str))).bind fun v34=>some v34) else (bif (a1.Verb==5) then (bif (a1.Size==0) then (z8a ((zea.mk ((zha.mk a0.Server.Name a0.Server.Size a0.Server.Many 2 a0.Server.Greeted a0.Server.Mailing a0.Server.From a0.Server.To a0.Server.Buffer a0.Server.Data a0.Server.Lost a0.Server.Dots ((!(((a0.Server.To.length:Int)==0)))) a1.Size a1.Last (((a0.Server.To.length:Int)==0)) a0.Server.Count)) a0.replies a0.mails))).bind fun v38=>some v38 else some ((zea.mk ((zha.mk a0.Server.Name a0.Server.Size a0.Server.Many 2 a0.Server.Greeted a0.Server.Mailing a0.Server.From a0.Server.To a0.Server.Buffer a0.Server.Data a0.Server.Lost a0.Server.Dots ((!(((a0.Server.To.length:Int)==0)))) a1.Size a1.Last (((a0.Server.To.length:Int)==0)) a0.Server.Count)) a0.replies a0.mails))) else (bif (a1.Verb==6) then (zUa a0).bind fun v41=>(zoa v41 250 (([([111,107]:Str)]:List Str))).bind fun v43=>some v43 else (bif (a1.Verb==7) then (zoa a0 250 (([([111,107]:Str)]:List Str))).bind fun v46=>some v46 else (bif (a1.Verb==8) then (zoa a0 221 (([([98,121,101]:Str)]:List Str))).bind fun v49=>(kJa v49).bind fun v51=>some v51 else some a0))))))))
noncomputable def kXa(a0:zea)(a1:UInt8):Option zea:=
 (app 140737488355328 a0.Server.Buffer (([a1]:List UInt8))).bind fun v1=>(qsa v1 (([(13:UInt8),(10:UInt8)]:List UInt8))).bind fun v3=>(bif (!v3.2) then ((bif ((v1.length:Int)==4002) then (zoa ((zea.mk ((zha.mk a0.Server.Name a0.Server.Size a0.Server.Many a0.Server.Phase a0.Server.Greeted a0.Server.Mailing a0.Server.From a0.Server.To v1 a0.Server.Data a0.Server.Lost a0.Server.Dots a0.Server.Chunked a0.Server.Left a0.Server.Last a0.Server.Ignore a0.Server.Count)) a0.replies a0.mails)) 500 (([([117,110,107,110,111,119,110]:Str)]:List Str))).bind fun v8=>(kJa v8).bind fun v10=>some v10 else some ((zea.mk ((zha.mk a0.Server.Name a0.Server.Size a0.Server.Many a0.Server.Phase a0.Server.Greeted a0.Server.Mailing a0.Server.From a0.Server.To v1 a0.Server.Data a0.Server.Lost a0.Server.Dots a0.Server.Chunked a0.Server.Left a0.Server.Last a0.Server.Ignore a0.Server.Count)) a0.replies a0.mails))):Option zea).bind fun (j6:zea)=>some j6 else (v3a v3.1).bind fun v12=>(bif (v12.2.Code==0) then (kua ((zea.mk ((zha.mk a0.Server.Name a0.Server.Size a0.Server.Many a0.Server.Phase a0.Server.Greeted a0.Server.Mailing a0.Server.From a0.Server.To (([]:List UInt8)) a0.Server.Data a0.Server.Lost a0.Server.Dots a0.Server.Chunked a0.Server.Left a0.Server.Last a0.Server.Ignore a0.Server.Count)) a0.replies a0.mails)) v12.1).bind fun v15=>some v15 else (bif (v12.2.Code==18) then (zoa ((zea.mk ((zha.mk a0.Server.Name a0.Server.Size a0.Server.Many a0.Server.Phase a0.Server.Greeted a0.Server.Mailing a0.Server.From a0.Server.To (([]:List UInt8)) a0.Server.Data a0.Server.Lost a0.Server.Dots a0.Server.Chunked a0.Server.Left a0.Server.Last a0.Server.Ignore a0.Server.Count)) a0.replies a0.mails)) 500 (([([117,110,107,110,111,119,110]:Str)]:List Str))).bind fun v18=>some v18 else (zoa ((zea.mk ((zha.mk a0.Server.Name a0.Server.Size a0.Server.Many a0.Server.Phase a0.Server.Greeted a0.Server.Mailing a0.Server.From a0.Server.To (([]:List UInt8)) a0.Server.Data a0.Server.Lost a0.Server.Dots a0.Server.Chunked a0.Server.Left a0.Server.Last a0.Server.Ignore a0.Server.Count)) a0.replies a0.mails)) 501 (([([115,121,110,116,97,120]:Str)]:List Str))).bind fun v20=>some v20)))
def z6a(a0:zea)(a1:UInt8):Option zea:=
 (bif decide ((a0.Server.Data.length:Int) < a0.Server.Size) then (app 140737488355328 a0.Server.Data (([a1]:List UInt8))).bind fun v2=>some ((zea.mk ((zha.mk a0.Server.Name a0.Server.Size a0.Server.Many a0.Server.Phase a0.Server.Greeted a0.Server.Mailing a0.Server.From a0.Server.To a0.Server.Buffer v2 a0.Server.Lost a0.Server.Dots a0.Server.Chunked a0.Server.Left a0.Server.Last a0.Server.Ignore a0.Server.Count)) a0.replies a0.mails)) else some ((zea.mk ((zha.mk a0.Server.Name a0.Server.Size a0.Server.Many a0.Server.Phase a0.Server.Greeted a0.Server.Mailing a0.Server.From a0.Server.To a0.Server.Buffer a0.Server.Data ((min ((w64 (a0.Server.Lost+1))) 1099511627776)) a0.Server.Dots a0.Server.Chunked a0.Server.Left a0.Server.Last a0.Server.Ignore a0.Server.Count)) a0.replies a0.mails)))
def z9a(a1:UInt8)(j1:zea):Option zea:=
 (z6a j1 a1).bind fun v2=>(bif ((a1.toNat:Int)==13) then some ((zea.mk ((zha.mk v2.Server.Name v2.Server.Size v2.Server.Many v2.Server.Phase v2.Server.Greeted v2.Server.Mailing v2.Server.From v2.Server.To v2.Server.Buffer v2.Server.Data v2.Server.Lost 4 v2.Server.Chunked v2.Server.Left v2.Server.Last v2.Server.Ignore v2.Server.Count)) v2.replies v2.mails)) else ((bif ((a1.toNat:Int)==10) then some ((v2.Server.Dots==4)) else some false):Option Bool).bind fun (j5:Bool)=>(bif j5 then some ((zea.mk ((zha.mk v2.Server.Name v2.Server.Size v2.Server.Many v2.Server.Phase v2.Server.Greeted v2.Server.Mailing v2.Server.From v2.Server.To v2.Server.Buffer v2.Server.Data v2.Server.Lost 0 v2.Server.Chunked v2.Server.Left v2.Server.Last v2.Server.Ignore v2.Server.Count)) v2.replies v2.mails)) else some ((zea.mk ((zha.mk v2.Server.Name v2.Server.Size v2.Server.Many v2.Server.Phase v2.Server.Greeted v2.Server.Mailing v2.Server.From v2.Server.To v2.Server.Buffer v2.Server.Data v2.Server.Lost 3 v2.Server.Chunked v2.Server.Left v2.Server.Last v2.Server.Ignore v2.Server.Count)) v2.replies v2.mails))))
noncomputable def kYa(a0:zea)(a1:UInt8):Option zea:=
 ((bif (a0.Server.Dots==0) then some (((a1.toNat:Int)==46)) else some false):Option Bool).bind fun (j8:Bool)=>(bif j8 then some ((zea.mk ((zha.mk a0.Server.Name a0.Server.Size a0.Server.Many a0.Server.Phase a0.Server.Greeted a0.Server.Mailing a0.Server.From a0.Server.To a0.Server.Buffer a0.Server.Data a0.Server.Lost 1 a0.Server.Chunked a0.Server.Left a0.Server.Last a0.Server.Ignore a0.Server.Count)) a0.replies a0.mails)) else ((bif (a0.Server.Dots==1) then some (((a1.toNat:Int)==13)) else some false):Option Bool).bind fun (j11:Bool)=>(bif j11 then some ((zea.mk ((zha.mk a0.Server.Name a0.Server.Size a0.Server.Many a0.Server.Phase a0.Server.Greeted a0.Server.Mailing a0.Server.From a0.Server.To a0.Server.Buffer a0.Server.Data a0.Server.Lost 2 a0.Server.Chunked a0.Server.Left a0.Server.Last a0.Server.Ignore a0.Server.Count)) a0.replies a0.mails)) else ((bif (a0.Server.Dots==2) then some (((a1.toNat:Int)==10)) else some false):Option Bool).bind fun (j14:Bool)=>(bif j14 then (zZa ((zea.mk ((zha.mk a0.Server.Name a0.Server.Size a0.Server.Many 0 a0.Server.Greeted a0.Server.Mailing a0.Server.From a0.Server.To a0.Server.Buffer a0.Server.Data a0.Server.Lost 0 a0.Server.Chunked a0.Server.Left a0.Server.Last a0.Server.Ignore a0.Server.Count)) a0.replies a0.mails))).bind fun v17=>some v17 else (bif (a0.Server.Dots==2) then (z6a a0 ((13:UInt8))).bind fun v20=>(z9a a1 v20) else (z9a a1 a0)))))
noncomputable def qda(a1:List UInt8)(s20:Int × zea):Option (Step (Int × zea) zea):=
 (bif decide (s20.1 < (a1.length:Int)) then ((idx a1 s20.1).bind fun v25=>(bif (s20.2.Server.Phase==0) then (kXa s20.2 v25).bind fun v28=>some v28 else (bif (s20.2.Server.Phase==1) then (kYa s20.2 v25).bind fun v31=>some v31 else (bif (s20.2.Server.Phase==2) then ((bif (!s20.2.Server.Ignore) then (z6a s20.2 v25).bind fun v36=>some v36 else some s20.2):Option zea).bind fun (j34:zea)=>(bif ((w64 (j34.Server.Left - 1))==0) then (z8a ((zea.mk ((zha.mk j34.Server.Name j34.Server.Size j34.Server.Many j34.Server.Phase j34.Server.Greeted j34.Server.Mailing j34.Server.From j34.Server.To j34.Server.Buffer j34.Server.Data j34.Server.Lost j34.Server.Dots j34.Server.Chunked ((w64 (j34.Server.Left - 1))) j34.Server.Last j34.Server.Ignore j34.Server.Count)) j34.replies j34.mails))).bind fun v39=>some v39 else some ((zea.mk ((zha.mk j34.Server.Name j34.Server.Size j34.Server.Many j34.Server.Phase j34.Server.Greeted j34.Server.Mailing j34.Server.From j34.Server.To j34.Server.Buffer j34.Server.Data j34.Server.Lost j34.Server.Dots j34.Server.Chunked ((w64 (j34.Server.Left - 1))) j34.Server.Last j34.Server.Ignore j34.Server.Count)) j34.replies j34.mails))) else some s20.2))):Option zea).bind fun (j24:zea)=>some (.cont ((w64 (s20.1+1)),j24)) else some (.out s20.2))
noncomputable def wBa(a0:zha)(a1:List UInt8):Option (zha × (List zna) × (List zwa) × zra):=
 (kTa a0.Name a0.Size a0.Many).bind fun v1=>(zKa v1).bind fun v3=>(bif v3 then some (((zha.mk (([]:Str)) 0 0 0 false false (([]:Str)) ([]) ([]) ([]) 0 0 false 0 false false 0),[],[],v1)) else (v7a a0).bind fun v6=>(bif (!v6) then (zta 5 ((-23))).bind fun v9=>some (((zha.mk (([]:Str)) 0 0 0 false false (([]:Str)) ([]) ([]) ([]) 0 0 false 0 false false 0),[],[],v9)) else (bif decide (40000 < (a1.length:Int)) then (zta 1 ((-1))).bind fun v12=>some (((zha.mk (([]:Str)) 0 0 0 false false (([]:Str)) ([]) ([]) ([]) 0 0 false 0 false false 0),[],[],v12)) else (zqa a0.To).bind fun v14=>(kta a0.Buffer).bind fun v16=>(kta a0.Data).bind fun v18=>(iter (qda a1) ((0,(zea.mk ((zha.mk a0.Name a0.Size a0.Many a0.Phase a0.Greeted a0.Mailing a0.From v14 v16 v18 a0.Lost a0.Dots a0.Chunked a0.Left a0.Last a0.Ignore a0.Count)) (([]:List zna)) (([]:List zwa)))))).bind fun b21=>(kha).bind fun v41=>some ((b21.Server,b21.replies,b21.mails,v41)))))
def vSa(a0:zda)(a1:Int)(a2:Str):Option zda:=
 (app 4398046511104 a0.Replies (([(zna.mk a1 (([a2]:List Str)))]:List zna))).bind fun v1=>some ((zda.mk a0.S v1 a0.Mails))
def vma(a0:zda):Option zda:=
 some ((zda.mk ((zha.mk a0.S.Name a0.S.Size a0.S.Many a0.S.Phase a0.S.Greeted false (([]:Str)) ([]) a0.S.Buffer (([]:List UInt8)) 0 a0.S.Dots false a0.S.Left a0.S.Last a0.S.Ignore a0.S.Count)) a0.Replies a0.Mails))
noncomputable def Zca(a0:zda):Option zda:=
 (K0a a0.S.Data).bind fun v1=>(bif decide (0 < a0.S.Lost) then (vSa a0 552 (([108,97,114,103,101]:Str))).bind fun v4=>(vma v4).bind fun v6=>some v6 else ((bif (!v1.2) then some true else some ((a0.S.Count==1000000))):Option Bool).bind fun (j8:Bool)=>(bif j8 then (vSa a0 554 (([114,101,102,117,115,101,100]:Str))).bind fun v11=>(vma v11).bind fun v13=>some v13 else (cat a0.S.Name (([45]:Str))).bind fun v15=>(wNa ((w64 (a0.S.Count+1)))).bind fun v17=>(cat v15 v17).bind fun v19=>(app 1353245080339 a0.Mails (([(zwa.mk ((kaa.mk a0.S.From a0.S.To v19)) v1.1)]:List zwa))).bind fun v21=>(vSa ((zda.mk ((zha.mk a0.S.Name a0.S.Size a0.S.Many a0.S.Phase a0.S.Greeted a0.S.Mailing a0.S.From a0.S.To a0.S.Buffer a0.S.Data a0.S.Lost a0.S.Dots a0.S.Chunked a0.S.Left a0.S.Last a0.S.Ignore ((w64 (a0.S.Count+1))))) a0.Replies v21)) 250 v19).bind fun v23=>(vma v23).bind fun v25=>some v25))
noncomputable def Zda(a0:zda):Option zda:=
 (bif a0.S.Ignore then (vSa ((zda.mk ((zha.mk a0.S.Name a0.S.Size a0.S.Many 0 a0.S.Greeted a0.S.Mailing a0.S.From a0.S.To a0.S.Buffer a0.S.Data a0.S.Lost a0.S.Dots a0.S.Chunked a0.S.Left false false a0.S.Count)) a0.Replies a0.Mails)) 503 (([111,114,100,101,114]:Str))).bind fun v2=>some v2 else (bif a0.S.Last then (Zca ((zda.mk ((zha.mk a0.S.Name a0.S.Size a0.S.Many 0 a0.S.Greeted a0.S.Mailing a0.S.From a0.S.To a0.S.Buffer a0.S.Data a0.S.Lost a0.S.Dots a0.S.Chunked a0.S.Left false false a0.S.Count)) a0.Replies a0.Mails))).bind fun v5=>some v5 else (vSa ((zda.mk ((zha.mk a0.S.Name a0.S.Size a0.S.Many 0 a0.S.Greeted a0.S.Mailing a0.S.From a0.S.To a0.S.Buffer a0.S.Data a0.S.Lost a0.S.Dots a0.S.Chunked a0.S.Left false false a0.S.Count)) a0.Replies a0.Mails)) 250 (([111,107]:Str))).bind fun v7=>some v7))
def v8a(j1:zda):Option zda:=
 (vSa j1 250 (([111,107]:Str))).bind fun v2=>some v2
noncomputable def Vba(a0:zda)(a1:zla):Option zda:=
 (bif (a1.Verb==1) then (vma a0).bind fun v5=>(wNa v5.S.Size).bind fun v7=>(cat (([115,105,122,101,32]:Str)) v7).bind fun v9=>(wNa v5.S.Many).bind fun v11=>(cat (([114,101,99,105,112,105,101,110,116,115,32]:Str)) v11).bind fun v13=>(app 4398046511104 v5.Replies (([(zna.mk 250 (([v5.S.Name,v9,v13]:List Str)))]:List zna))).bind fun v15=>some ((zda.mk ((zha.mk v5.S.Name v5.S.Size v5.S.Many v5.S.Phase true v5.S.Mailing v5.S.From v5.S.To v5.S.Buffer v5.S.Data v5.S.Lost v5.S.Dots v5.S.Chunked v5.S.Left v5.S.Last v5.S.Ignore v5.S.Count)) v15 v5.Mails)) else (bif (a1.Verb==2) then ((bif (!a0.S.Greeted) then some true else some a0.S.Mailing):Option Bool).bind fun (j18:Bool)=>(bif j18 then (vSa a0 503 (([111,114,100,101,114]:Str))).bind fun v21=>some v21 else (bif decide (a0.S.Size < a1.Size) then (vSa a0 552 (([108,97,114,103,101]:Str))).bind fun v24=>some v24 else (v8a (zda.mk ((zha.mk a0.S.Name a0.S.Size a0.S.Many a0.S.Phase a0.S.Greeted true a1.Address a0.S.To a0.S.Buffer a0.S.Data a0.S.Lost a0.S.Dots a0.S.Chunked a0.S.Left a0.S.Last a0.S.Ignore a0.S.Count)) a0.Replies a0.Mails)))) else (bif (a1.Verb==3) then ((bif (!a0.S.Mailing) then some true else some a0.S.Chunked):Option Bool).bind fun (j27:Bool)=>(bif j27 then (vSa a0 503 (([111,114,100,101,114]:Str))).bind fun v30=>some v30 else (app 5864062014805 (([]:List zca)) a0.S.To).bind fun v32=>(app 5864062014805 v32 (([(zca.mk a1.Address a1.Notify)]:List zca))).bind fun v34=>(J4a v34).bind fun v36=>(bif decide (a0.S.Many < (v36.length:Int)) then (vSa a0 452 (([109,97,110,121]:Str))).bind fun v39=>some v39 else (v8a (zda.mk ((zha.mk a0.S.Name a0.S.Size a0.S.Many a0.S.Phase a0.S.Greeted a0.S.Mailing a0.S.From v36 a0.S.Buffer a0.S.Data a0.S.Lost a0.S.Dots a0.S.Chunked a0.S.Left a0.S.Last a0.S.Ignore a0.S.Count)) a0.Replies a0.Mails)))) else (bif (a1.Verb==4) then ((bif ((a0.S.To.length:Int)==0) then some true else some a0.S.Chunked):Option Bool).bind fun (j42:Bool)=>(bif j42 then (vSa a0 503 (([111,114,100,101,114]:Str))).bind fun v45=>some v45 else (vSa ((zda.mk ((zha.mk a0.S.Name a0.S.Size a0.S.Many 1 a0.S.Greeted a0.S.Mailing a0.S.From a0.S.To a0.S.Buffer a0.S.Data a0.S.Lost 0 a0.S.Chunked a0.S.Left a0.S.Last a0.S.Ignore a0.S.Count)) a0.Replies a0.Mails)) 354 (([103,111,32,111,110]:Str))).bind fun v47=>some v47) else (bif (a1.Verb==5) then ((bif (!(((a0.S.To.length:Int)==0))) then some ((zda.mk ((zha.mk a0.S.Name a0.S.Size a0.S.Many 2 a0.S.Greeted a0.S.Mailing a0.S.From a0.S.To a0.S.Buffer a0.S.Data a0.S.Lost a0.S.Dots true a1.Size a1.Last (((a0.S.To.length:Int)==0)) a0.S.Count)) a0.Replies a0.Mails)) else some ((zda.mk ((zha.mk a0.S.Name a0.S.Size a0.S.Many 2 a0.S.Greeted a0.S.Mailing a0.S.From a0.S.To a0.S.Buffer a0.S.Data a0.S.Lost a0.S.Dots a0.S.Chunked a1.Size a1.Last (((a0.S.To.length:Int)==0)) a0.S.Count)) a0.Replies a0.Mails))):Option zda).bind fun (j50:zda)=>(bif (a1.Size==0) then (Zda j50).bind fun v53=>some v53 else some j50) else (bif (a1.Verb==6) then (vma a0).bind fun v56=>(v8a v56) else (bif (a1.Verb==8) then (vma a0).bind fun v59=>(vSa ((zda.mk ((zha.mk v59.S.Name v59.S.Size v59.S.Many 3 v59.S.Greeted v59.S.Mailing v59.S.From v59.S.To v59.S.Buffer v59.S.Data v59.S.Lost v59.S.Dots v59.S.Chunked v59.S.Left v59.S.Last v59.S.Ignore v59.S.Count)) v59.Replies v59.Mails)) 221 (([98,121,101]:Str))).bind fun v61=>some v61 else (v8a a0))))))))
noncomputable def K1a(a0:zda)(a1:UInt8):Option zda:=
 (app 140737488355328 (([]:List UInt8)) a0.S.Buffer).bind fun v1=>(app 140737488355328 v1 (([a1]:List UInt8))).bind fun v3=>((bif decide (2<=(v3.length:Int)) then (idx v3 ((w64 ((v3.length:Int) - 2)))).bind fun v7=>(bif ((v7.toNat:Int)==13) then (idx v3 ((w64 ((v3.length:Int) - 1)))).bind fun v10=>some (((v10.toNat:Int)==10)) else some false) else some false):Option Bool).bind fun (j5:Bool)=>(bif j5 then (cut v3 0 ((w64 ((v3.length:Int) - 2)))).bind fun v13=>(KZa v13).bind fun v15=>(bif (v15.2.Code==18) then (vSa ((zda.mk ((zha.mk a0.S.Name a0.S.Size a0.S.Many a0.S.Phase a0.S.Greeted a0.S.Mailing a0.S.From a0.S.To ([]) a0.S.Data a0.S.Lost a0.S.Dots a0.S.Chunked a0.S.Left a0.S.Last a0.S.Ignore a0.S.Count)) a0.Replies a0.Mails)) 500 (([117,110,107,110,111,119,110]:Str))).bind fun v18=>some v18 else (bif (v15.2.Code !=0) then (vSa ((zda.mk ((zha.mk a0.S.Name a0.S.Size a0.S.Many a0.S.Phase a0.S.Greeted a0.S.Mailing a0.S.From a0.S.To ([]) a0.S.Data a0.S.Lost a0.S.Dots a0.S.Chunked a0.S.Left a0.S.Last a0.S.Ignore a0.S.Count)) a0.Replies a0.Mails)) 501 (([115,121,110,116,97,120]:Str))).bind fun v21=>some v21 else (Vba ((zda.mk ((zha.mk a0.S.Name a0.S.Size a0.S.Many a0.S.Phase a0.S.Greeted a0.S.Mailing a0.S.From a0.S.To ([]) a0.S.Data a0.S.Lost a0.S.Dots a0.S.Chunked a0.S.Left a0.S.Last a0.S.Ignore a0.S.Count)) a0.Replies a0.Mails)) v15.1).bind fun v23=>some v23)) else (bif ((v3.length:Int)==4002) then (vma ((zda.mk ((zha.mk a0.S.Name a0.S.Size a0.S.Many a0.S.Phase a0.S.Greeted a0.S.Mailing a0.S.From a0.S.To v3 a0.S.Data a0.S.Lost a0.S.Dots a0.S.Chunked a0.S.Left a0.S.Last a0.S.Ignore a0.S.Count)) a0.Replies a0.Mails))).bind fun v26=>(vSa ((zda.mk ((zha.mk v26.S.Name v26.S.Size v26.S.Many 3 v26.S.Greeted v26.S.Mailing v26.S.From v26.S.To ([]) v26.S.Data v26.S.Lost v26.S.Dots v26.S.Chunked v26.S.Left v26.S.Last v26.S.Ignore v26.S.Count)) v26.Replies v26.Mails)) 500 (([117,110,107,110,111,119,110]:Str))).bind fun v28=>some v28 else some ((zda.mk ((zha.mk a0.S.Name a0.S.Size a0.S.Many a0.S.Phase a0.S.Greeted a0.S.Mailing a0.S.From a0.S.To v3 a0.S.Data a0.S.Lost a0.S.Dots a0.S.Chunked a0.S.Left a0.S.Last a0.S.Ignore a0.S.Count)) a0.Replies a0.Mails))))
def K2a(a0:zda)(a1:UInt8):Option zda:=
 ((bif decide ((a0.S.Data.length:Int) < a0.S.Size) then (app 140737488355328 a0.S.Data (([a1]:List UInt8))).bind fun v3=>some ((zda.mk ((zha.mk a0.S.Name a0.S.Size a0.S.Many a0.S.Phase a0.S.Greeted a0.S.Mailing a0.S.From a0.S.To a0.S.Buffer v3 a0.S.Lost a0.S.Dots a0.S.Chunked a0.S.Left a0.S.Last a0.S.Ignore a0.S.Count)) a0.Replies a0.Mails)) else (bif decide (a0.S.Lost < 1099511627776) then some ((zda.mk ((zha.mk a0.S.Name a0.S.Size a0.S.Many a0.S.Phase a0.S.Greeted a0.S.Mailing a0.S.From a0.S.To a0.S.Buffer a0.S.Data ((w64 (a0.S.Lost+1))) a0.S.Dots a0.S.Chunked a0.S.Left a0.S.Last a0.S.Ignore a0.S.Count)) a0.Replies a0.Mails)) else some a0)):Option zda).bind fun (j1:zda)=>some j1
noncomputable def K3a(a0:zda)(a1:UInt8):Option zda:=
 ((bif (a0.S.Dots==0) then some (((a1.toNat:Int)==46)) else some false):Option Bool).bind fun (j1:Bool)=>(bif j1 then some ((zda.mk ((zha.mk a0.S.Name a0.S.Size a0.S.Many a0.S.Phase a0.S.Greeted a0.S.Mailing a0.S.From a0.S.To a0.S.Buffer a0.S.Data a0.S.Lost 1 a0.S.Chunked a0.S.Left a0.S.Last a0.S.Ignore a0.S.Count)) a0.Replies a0.Mails)) else ((bif (a0.S.Dots==1) then some (((a1.toNat:Int)==13)) else some false):Option Bool).bind fun (j4:Bool)=>(bif j4 then some ((zda.mk ((zha.mk a0.S.Name a0.S.Size a0.S.Many a0.S.Phase a0.S.Greeted a0.S.Mailing a0.S.From a0.S.To a0.S.Buffer a0.S.Data a0.S.Lost 2 a0.S.Chunked a0.S.Left a0.S.Last a0.S.Ignore a0.S.Count)) a0.Replies a0.Mails)) else ((bif (a0.S.Dots==2) then some (((a1.toNat:Int)==10)) else some false):Option Bool).bind fun (j7:Bool)=>(bif j7 then (Zca ((zda.mk ((zha.mk a0.S.Name a0.S.Size a0.S.Many 0 a0.S.Greeted a0.S.Mailing a0.S.From a0.S.To a0.S.Buffer a0.S.Data a0.S.Lost 0 a0.S.Chunked a0.S.Left a0.S.Last a0.S.Ignore a0.S.Count)) a0.Replies a0.Mails))).bind fun v10=>some v10 else ((bif (a0.S.Dots==2) then (K2a a0 ((13:UInt8))).bind fun v14=>some v14 else some a0):Option zda).bind fun (j12:zda)=>(K2a j12 a1).bind fun v16=>((bif ((a1.toNat:Int)==13) then some ((zda.mk ((zha.mk v16.S.Name v16.S.Size v16.S.Many v16.S.Phase v16.S.Greeted v16.S.Mailing v16.S.From v16.S.To v16.S.Buffer v16.S.Data v16.S.Lost 4 v16.S.Chunked v16.S.Left v16.S.Last v16.S.Ignore v16.S.Count)) v16.Replies v16.Mails)) else some ((zda.mk ((zha.mk v16.S.Name v16.S.Size v16.S.Many v16.S.Phase v16.S.Greeted v16.S.Mailing v16.S.From v16.S.To v16.S.Buffer v16.S.Data v16.S.Lost 3 v16.S.Chunked v16.S.Left v16.S.Last v16.S.Ignore v16.S.Count)) v16.Replies v16.Mails))):Option zda).bind fun (j18:zda)=>(((bif (a0.S.Dots==4) then some (((a1.toNat:Int)==10)) else some false):Option Bool).bind fun (j21:Bool)=>(bif j21 then some ((zda.mk ((zha.mk j18.S.Name j18.S.Size j18.S.Many j18.S.Phase j18.S.Greeted j18.S.Mailing j18.S.From j18.S.To j18.S.Buffer j18.S.Data j18.S.Lost 0 j18.S.Chunked j18.S.Left j18.S.Last j18.S.Ignore j18.S.Count)) j18.Replies j18.Mails)) else some j18):Option zda).bind fun (j20:zda)=>some j20)))
noncomputable def w8a(a1:List UInt8)(s3:Int × zda):Option (Step (Int × zda) zda):=
 (bif decide (s3.1 < (a1.length:Int)) then ((bif (s3.2.S.Phase==0) then (idx a1 s3.1).bind fun v9=>(K1a s3.2 v9).bind fun v11=>some v11 else (bif (s3.2.S.Phase==1) then (idx a1 s3.1).bind fun v14=>(K3a s3.2 v14).bind fun v16=>some v16 else (bif (s3.2.S.Phase==2) then ((bif (!s3.2.S.Ignore) then (idx a1 s3.1).bind fun v21=>(K2a s3.2 v21).bind fun v23=>some v23 else some s3.2):Option zda).bind fun (j19:zda)=>(bif ((w64 (j19.S.Left - 1))==0) then (Zda ((zda.mk ((zha.mk j19.S.Name j19.S.Size j19.S.Many j19.S.Phase j19.S.Greeted j19.S.Mailing j19.S.From j19.S.To j19.S.Buffer j19.S.Data j19.S.Lost j19.S.Dots j19.S.Chunked ((w64 (j19.S.Left - 1))) j19.S.Last j19.S.Ignore j19.S.Count)) j19.Replies j19.Mails))).bind fun v26=>some v26 else some ((zda.mk ((zha.mk j19.S.Name j19.S.Size j19.S.Many j19.S.Phase j19.S.Greeted j19.S.Mailing j19.S.From j19.S.To j19.S.Buffer j19.S.Data j19.S.Lost j19.S.Dots j19.S.Chunked ((w64 (j19.S.Left - 1))) j19.S.Last j19.S.Ignore j19.S.Count)) j19.Replies j19.Mails))) else some s3.2))):Option zda).bind fun (j7:zda)=>some (.cont ((w64 (s3.1+1)),j7)) else some (.out s3.2))
noncomputable def jxa(a0:zha):Option zra:=
 ((Wga a0.Name).bind fun v2=>(bif (!v2) then some true else some (decide (40 < (a0.Name.length:Int)))):Option Bool).bind fun (j1:Bool)=>(bif j1 then (R_At 10 ((-20))).bind fun v6=>some v6 else (R_In a0.Size 1 12000).bind fun v8=>(bif (!v8) then (R_At 3 ((-21))).bind fun v11=>some v11 else (R_In a0.Many 1 60).bind fun v13=>(bif (!v13) then (R_At 3 ((-22))).bind fun v16=>some v16 else some ((zra.mk 0 0)))))
noncomputable def VFa(a0:Str)(a1:Int)(a2:Int):Option (zha × zna × zra):=
 (jxa ((zha.mk a0 a1 a2 0 false false (([]:Str)) ([]) ([]) ([]) 0 0 false 0 false false 0))).bind fun v1=>(bif (v1.Code !=0) then some (((zha.mk (([]:Str)) 0 0 0 false false (([]:Str)) ([]) ([]) ([]) 0 0 false 0 false false 0),(zna.mk 0 ([])),v1)) else some (((zha.mk a0 a1 a2 0 false false (([]:Str)) ([]) ([]) ([]) 0 0 false 0 false false 0),(zna.mk 220 (([a0]:List Str))),v1)))
noncomputable def jQa:Option Bool:=
 (ywa (([109,120]:Str)) 1000 10).bind fun v1=>(wBa v1.1 (([(104:UInt8),(101:UInt8),(108:UInt8),(108:UInt8),(111:UInt8),(32:UInt8),(99:UInt8),(13:UInt8),(10:UInt8),(109:UInt8),(97:UInt8),(105:UInt8),(108:UInt8),(32:UInt8),(60:UInt8),(115:UInt8),(64:UInt8),(120:UInt8),(62:UInt8),(13:UInt8),(10:UInt8),(114:UInt8),(99:UInt8),(112:UInt8),(116:UInt8),(32:UInt8),(60:UInt8),(97:UInt8),(64:UInt8),(121:UInt8),(62:UInt8),(13:UInt8),(10:UInt8),(100:UInt8),(97:UInt8),(116:UInt8),(97:UInt8),(13:UInt8),(10:UInt8),(13:UInt8),(10:UInt8),(46:UInt8),(46:UInt8),(13:UInt8),(10:UInt8),(46:UInt8),(13:UInt8),(10:UInt8),(110:UInt8),(111:UInt8),(111:UInt8),(112:UInt8),(13:UInt8),(10:UInt8)]:List UInt8))).bind fun v3=>(ywa (([]:Str)) 1 1).bind fun v5=>((bif (v1.2.2.Code !=0) then some true else (bif (v3.2.2.2.Code !=0) then some true else (R_At 10 ((-20))).bind fun v10=>(bif (!(vXa [(v5.2.2.Code==v10.Code),(v5.2.2.Index==v10.Index)])) then some true else (bif (v1.2.1.Code !=220) then some true else (bif ((v3.2.1.length:Int) !=6) then some true else (bif ((v3.2.2.1.length:Int) !=1) then some true else (idx v3.2.2.1 0).bind fun v16=>some (((v16.Envelope.To.length:Int) !=1)))))))):Option Bool).bind fun (j7:Bool)=>(bif j7 then some false else ((idx v3.2.1 3).bind fun v20=>(bif (v20.Code==354) then (idx v3.2.1 4).bind fun v23=>(ZNa v23.Lines (([([109,120,45,49]:Str)]:List Str))).bind fun v25=>(bif v25 then (idx v3.2.1 5).bind fun v28=>(bif (v28.Code==250) then (bif (v3.1.Count==1) then (idx v3.2.2.1 0).bind fun v32=>(bif (v32.Envelope.From==([115,64,120]:Str)) then (idx v3.2.2.1 0).bind fun v35=>(bif (v35.Envelope.Id==([109,120,45,49]:Str)) then (idx v3.2.2.1 0).bind fun v38=>some ((v38.Message.Body==([46,13,10]:Str))) else some false) else some false) else some false) else some false) else some false) else some false):Option Bool).bind fun (j19:Bool)=>some j19)
def zSa(v1:zha × (List zna) × (List zwa) × zra)(s12:Int)(s22:Int × Int):Option (Step (Int × Int) Int):=
 (bif decide (s22.2 < (v1.2.1.length:Int)) then (((idx v1.2.1 s22.2).bind fun v28=>(bif (v28.Code==250) then (idx v1.2.1 s22.2).bind fun v31=>(bif ((v31.Lines.length:Int)==1) then (idx v1.2.1 s22.2).bind fun v34=>(idx v34.Lines 0).bind fun v36=>(idx v1.2.2.1 s12).bind fun v38=>some ((v36==v38.Envelope.Id)) else some false) else some false):Option Bool).bind fun (j27:Bool)=>(bif j27 then some ((w64 (s22.1+1))) else some s22.1):Option Int).bind fun (j26:Int)=>some (.cont (j26,(w64 (s22.2+1)))) else some (.out s22.1))
noncomputable def kza(a0:zha)(v1:zha × (List zna) × (List zwa) × zra)(s12:Int):Option (Step Int (Unit ⊕ Bool)):=
 (bif decide (s12 < (v1.2.2.1.length:Int)) then (idx v1.2.2.1 s12).bind fun v18=>(v4a v18.Message).bind fun v20=>(iter (zSa v1 s12) ((0,0))).bind fun b23=>((bif (v20.2.Code !=0) then some true else (bif ((v20.1.length:Int)==0) then some true else (idx v1.2.2.1 s12).bind fun v44=>(vva v44).bind fun v46=>(bif (!(vXa [(v46.Code==0),(v46.Index==0)])) then some true else (idx v1.2.2.1 s12).bind fun v49=>(bif decide (a0.Many < (v49.Envelope.To.length:Int)) then some true else (idx v1.2.2.1 s12).bind fun v52=>(cat a0.Name (([45]:Str))).bind fun v54=>(wNa ((w64 ((w64 (a0.Count+1))+s12)))).bind fun v56=>(cat v54 v56).bind fun v58=>(bif (v52.Envelope.Id !=v58) then some true else some ((b23 !=1))))))):Option Bool).bind fun (j41:Bool)=>(bif j41 then some (.out (.inr false)) else some (.cont (w64 (s12+1)))) else some (.out (.inl (()))))
noncomputable def k2a(a0:zha)(a1:List UInt8):Option Bool:=
 (wBa a0 a1).bind fun v1=>((jQa).bind fun v4=>(bif (!v4) then some true else some ((v1.2.2.2.Code !=0))):Option Bool).bind fun (j3:Bool)=>(bif j3 then ((jQa).bind fun v9=>(bif v9 then some (((v1.2.2.1.length:Int)==0)) else some false):Option Bool).bind fun (j8:Bool)=>some j8 else (iter (kza a0 v1) 0).bind (Sum.elim (fun b13=>some ((v1.1.Count==(w64 (a0.Count+(v1.2.2.1.length:Int)))))) (fun b14=>some b14)))
section
theorem yEb(a b:Nat)(h:a+b<=9223372036854775807):w64 ((a:Int)+(b:Int))=((a+b:Nat):Int):=by
 rw[qja (by omega) (by omega)];simp
theorem w64_nl(a k:Nat)(h:a+OfNat.ofNat k<=9223372036854775807):w64 ((a:Int)+(no_index (OfNat.ofNat k:Int)))=((a+OfNat.ofNat k:Nat):Int):=by
 have e:(OfNat.ofNat k:Int)=((OfNat.ofNat k:Nat):Int):=rfl;rw[e];exact yEb a _ h
theorem w64_ns(a b:Nat)(h:b<=a)(ha:a<=9223372036854775807):w64 ((a:Int) - (b:Int))=((a - b:Nat):Int):=by
 rw[qja (by omega) (by omega)];omega
theorem Zxa(a:Nat)(h:a<=9223372036854775807):w64 (a:Int)=(a:Int):=qja (by omega) (by omega)
theorem qJa(c:UInt8)(k:Nat)(hk:OfNat.ofNat k < 256):((c.toNat:Int)==no_index (OfNat.ofNat k:Int))=(c==OfNat.ofNat k):=by
 have e:(OfNat.ofNat k:Int)=((OfNat.ofNat k:Nat):Int):=rfl;have h2:(OfNat.ofNat k:UInt8).toNat=(OfNat.ofNat k:Nat):=by
  show (UInt8.ofNat k).toNat=k;rw[UInt8.toNat_ofNat'];exact Nat.mod_eq_of_lt hk
 rw[Bool.eq_iff_iff,beq_iff_eq,beq_iff_eq,<-UInt8.toNat_inj,h2,e];omega
theorem Kwa(c:UInt8)(k:Nat)(hk:OfNat.ofNat k < 256):((c.toNat:Int) !=no_index (OfNat.ofNat k:Int))=(c !=OfNat.ofNat k):=by
 unfold bne;rw[qJa c k hk]
section
variable {α:Type}
theorem wCa(l:List α)(i:Nat):idx l (i:Int)=l[i]? :=by unfold idx;rw[if_pos (by omega)];simp
theorem WNa{l:List α}{i:Nat}(h:i < l.length):idx l (i:Int)=some l[i]:=by rw[wCa];exact List.getElem?_eq_getElem h
theorem qub(p:List α)(x:α)(r:List α):idx (p++x::r) (p.length:Int)=some x:=by rw[wCa];simp
theorem vgb{l:List α}{a b:Nat}(h1:a<=b)(h2:b<=l.length):cut l (a:Int) (b:Int)=some ((l.drop a).take (b - a)):=by
 unfold cut;rw[if_pos (by omega)];simp
theorem jha{l:List α}{a:Nat}(h1:a<=l.length):cut l (a:Int) (l.length:Int)=some (l.drop a):=by
 rw[vgb h1 (Nat.le_refl _)];rw[List.take_of_length_le (by simp)]
theorem Zoa{l:List α}{b:Nat}(h2:b<=l.length):cut l 0 (b:Int)=some (l.take b):=by
 have:=vgb (l:=l) (a:=0) (b:=b) (by omega) h2;simpa using this
theorem kla{lim:Nat}{l xs:List α}(h:l.length+xs.length<=lim):app lim l xs=some (l++xs):=by unfold app;rw[if_pos h]
theorem yTa{a b:Str}(h:a.length+b.length<=9223372036854775807):cat a b=some (a++b):=by unfold cat;rw[if_pos h]
end
section
variable {A R:Type} {body:A->Option (Step A R)}
theorem Wia(Inv:A->Prop)(m:A->Nat)(Post:A->R->Prop)
 (h:∀s,Inv s->(∃r,body s=some (.out r)/\Post s r)∨∃s',body s=some (.cont s')/\Inv s' /\m s' < m s/\∀r,Post s' r->Post s r):
 ∀s,Inv s->∃r,iter body s=some r/\Post s r:=by
 intro s;induction hn:m s using Nat.strongRecOn generalizing s with
 | _ n ih=>
  intro hi;rcases h s hi with ⟨r,h1,h2⟩ | ⟨s',h1,h2,h3,h4⟩
  .exact ⟨r,zAa h1,h2⟩
  obtain ⟨r,h5,h6⟩:=ih (m s') (by omega) s' rfl h2;exact ⟨r,(zOa h1).trans h5,h4 r h6⟩
theorem yFb{α S:Type}(l:List α)(enc:Nat->S->A)(spec:Nat->List α->S->R)
 (h0:∀s,body (enc l.length s)=some (.out (spec l.length [] s)))
 (h1:∀p x r s,l=p++x::r->(body (enc p.length s)=some (.out (spec p.length (x::r) s)))∨∃s',body (enc p.length s)=some (.cont (enc (p.length+1) s'))/\spec p.length (x::r) s=spec (p.length+1) r s'):
 ∀{s0:A} (s:S) (_:s0=enc 0 s),iter body s0=some (spec 0 l s):=by
 have key:∀r p s,l=p++r->iter body (enc p.length s)=some (spec p.length r s):=by
  intro r;induction r with
  | nil=>
   intro p s h;have:p=l:=by simp[h]
   subst this;exact zAa (h0 s)
  | cons x r ih=>
   intro p s h;rcases h1 p x r s h with hb | ⟨s',hb,hs⟩
   .exact zAa hb
   rw[zOa hb,hs];have:=ih (p++ [x]) s' (by simp[h]);simpa using this
 rintro _ s rfl;exact key l [] s rfl
theorem Y5a{α S:Type}(l:List α)(enc:Nat->S->A)(spec:Nat->List α->S->R)(Inv:Nat->List α->S->Prop)
 (h0:∀s,Inv l.length [] s->body (enc l.length s)=some (.out (spec l.length [] s)))
 (h1:∀p x r s,l=p++x::r->Inv p.length (x::r) s->(body (enc p.length s)=some (.out (spec p.length (x::r) s)))∨∃s',body (enc p.length s)=some (.cont (enc (p.length+1) s'))/\spec p.length (x::r) s=spec (p.length+1) r s' /\Inv (p.length+1) r s'):
 ∀{s0:A} (s:S) (_:s0=enc 0 s) (_:Inv 0 l s),iter body s0=some (spec 0 l s):=by
 have key:∀r p s,l=p++r->Inv p.length r s->iter body (enc p.length s)=some (spec p.length r s):=by
  intro r;induction r with
  | nil=>
   intro p s h hi;have:p=l:=by simp[h]
   subst this;exact zAa (h0 s hi)
  | cons x r ih=>
   intro p s h hi;rcases h1 p x r s h hi with hb | ⟨s',hb,hs,hi'⟩
   .exact zAa hb
   rw[zOa hb,hs];have:=ih (p++ [x]) s' (by simp[h]) (by simpa using hi');simpa using this
 rintro _ s rfl hi;exact key l [] s rfl hi
end
end
section
section
variable {α R O A S:Type}
def zya(q:Nat->α->Option R):Nat->List α->Option R
 | _,[]=>none
 | i,x::r=>match q i x with | some y=>some y | none=>zya q (i+1) r
theorem zTa(l:List α)(q:Nat->α->Option R)(oN:O)(oS:R->O){body:Int->Option (Step Int O)}(hl:body (l.length:Int)=some (.out oN))
 (hs:∀(i:Nat) x,l[i]? =some x->body (i:Int)=some ((q i x).elim (.cont ((i+1:Nat):Int)) fun r=>.out (oS r))):
 iter body 0=some ((zya q 0 l).elim oN oS):=by
 have key:∀r p,l=p++r->iter body (p.length:Int)=some ((zya q p.length r).elim oN oS):=by
  intro r;induction r with
  | nil=>
   intro p h;have:p=l:=by simp[h]
   subst this;exact zAa hl
  | cons x r ih=>
   intro p h;have hx:=hs p.length x (by simp[h]);unfold zya;cases hq:q p.length x with
   | some y=>rw[hq]at hx;exact zAa hx
   | none=>
    rw[hq]at hx;rw[zOa hx];have:=ih (p++ [x]) (by simp[h]);simpa using this
 exact key l [] rfl
theorem Kna(l:List α)(enc:Int->S->A)(f:Nat->S->α->S)(out:S->O)(Inv:Nat->S->Prop){body:A->Option (Step A O)}
 (hl:∀s,Inv l.length s->body (enc l.length s)=some (.out (out s)))
 (hs:∀(i:Nat) x s,l[i]? =some x->Inv i s->body (enc i s)=some (.cont (enc ((i+1:Nat):Int) (f i s x)))/\Inv (i+1) (f i s x)) (s:S) (h0:Inv 0 s):
 ∃t,iter body (enc 0 s)=some (out t)/\Inv l.length t/\t=(l.zipIdx.foldl (fun s p=>f p.2 s p.1) s):=by
 have key:∀r p s,l=p++r->Inv p.length s->∃t,iter body (enc (p.length:Int) s)=some (out t)/\Inv l.length t/\t=((r.zipIdx p.length).foldl (fun s p=>f p.2 s p.1) s):=by
  intro r;induction r with
  | nil=>
   intro p s h hi;have:p=l:=by simp[h]
   subst this;exact ⟨s,zAa (hl s hi),hi,rfl⟩
  | cons x r ih=>
   intro p s h hi;obtain ⟨h1,h2⟩:=hs p.length x s (by simp[h]) hi;rw[zOa h1];obtain ⟨t,h3,h4,h5⟩:=ih (p++ [x]) (f p.length s x) (by simp[h]) (by simpa using h2);refine ⟨t,by simpa using h3,h4,?_⟩;rw[h5];simp
 exact key l [] s rfl h0
theorem z3b(f:S->α->S)(l:List α):∀(n:Nat) (s:S),(l.zipIdx n).foldl (fun s p=>f s p.1) s=l.foldl f s:=by
 induction l with
 | nil=>intro n s;rfl
 | cons x r ih=>intro n s;simp[ih]
theorem yUa(l:List α)(enc:Int->S->A)(f:S->α->S)(out:S->O)(Inv:Nat->S->Prop){body:A->Option (Step A O)}
 (hl:∀s,Inv l.length s->body (enc l.length s)=some (.out (out s)))
 (hs:∀(i:Nat) x s,l[i]? =some x->Inv i s->body (enc i s)=some (.cont (enc ((i+1:Nat):Int) (f s x)))/\Inv (i+1) (f s x)) (s:S) (h0:Inv 0 s):
 iter body (enc 0 s)=some (out (l.foldl f s))/\Inv l.length (l.foldl f s):=by
 obtain ⟨t,h1,h2,h3⟩:=Kna l enc (fun _=>f) out Inv hl hs s h0;have:t=l.foldl f s:=by rw[h3];exact z3b f l 0 s
 subst this;exact ⟨h1,h2⟩
theorem jRa(c:α->Bool)(r:R)(l:List α)(n:Nat):zya (fun _ x=>if c x then some r else none) n l=if l.any c then some r else none:=by
 induction l generalizing n with
 | nil=>rfl
 | cons x l ih=>unfold zya;cases h:c x <;> simp[h,ih]
theorem vLa{q:Nat->α->Option R}{l:List α}{n:Nat}:zya q n l=none↔∀(i:Nat) x,l[i]? =some x->q (n+i) x=none:=by
 induction l generalizing n with
 | nil=>simp[zya]
 | cons x l ih=>
  unfold zya;cases h:q n x with
  | some y=>
   simp only[reduceCtorEq,false_iff];intro hh;have:=hh 0 x rfl;rw[Nat.add_zero,h]at this;cases this
  | none=>
   rw[ih];constructor
   .intro hh i y hy;cases i with
    | zero=>simp at hy;subst hy;exact h
    | succ i=>rw[show n+(i+1)=n+1+i by omega];exact hh i y (by simpa using hy)
   intro hh i y hy;rw[show n+1+i=n+(i+1) by omega];exact hh (i+1) y (by simpa using hy)
theorem K4a{q:Nat->α->Option R}{l:List α}{n:Nat}{r:R}(h:zya q n l=some r):∃(i:Nat) (x:α),l[i]? =some x/\q (n+i) x=some r:=by
 induction l generalizing n with
 | nil=>cases h
 | cons x l ih=>
  unfold zya at h;cases hq:q n x with
  | some y=>rw[hq]at h;cases h;exact ⟨0,x,rfl,hq⟩
  | none=>
   rw[hq]at h;obtain ⟨i,y,h1,h2⟩:=ih h;exact ⟨i+1,y,by simpa using h1,by rw[show n+(i+1)=n+1+i by omega];exact h2⟩
theorem zLa{l:List α}{i:Nat}{x:α}(h:l[i]? =some x):i < l.length:=(List.getElem?_eq_some_iff.1 h).1
theorem koa{l:List α}{i:Nat}{x:α}(h:l[i]? =some x):decide ((i:Int) < (l.length:Int))=true:=by have:=zLa h;simp;omega
theorem zMa(l:List α):decide ((l.length:Int) < (l.length:Int))=false:=by simp
theorem zCa{l:List α}{i:Nat}{x:α}(h:l[i]? =some x):idx l (i:Int)=some x:=by rw[wCa];exact h
end
end
def WOa(c:UInt8):Bool:=(decide (97<=c) && decide (c<=122)) || (decide (65<=c) && decide (c<=90)) || (decide (48<=c) && decide (c<=57))
def yka(c:UInt8):Bool:=(decide (97<=c) && decide (c<=122)) || (decide (48<=c) && decide (c<=57)) || c==45 || c==46
def VUa(c:UInt8):Bool:=WOa c || c==45 || c==95 || c==46 || c==43 || c==61
def Zpa:Bool->Str->Bool
 | p,[]=> !p
 | p,c::r=>if c=46 then !p && Zpa true r else Zpa false r
def domP(s:Str):Bool:=decide (s.length<=60) && s.all yka && Zpa true s
def atP(s:Str):Nat:=s.findIdx (· ==64)
def k3a(s:Str):Bool:=decide (atP s < s.length) && decide (1<=atP s) && decide (atP s<=60) && (s.take (atP s)).all VUa && domP (s.drop (atP s+1))
theorem jia(k:Nat)(c:UInt8)(hk:OfNat.ofNat k < 256):decide ((no_index (OfNat.ofNat k:Int))<=(c.toNat:Int))=decide ((OfNat.ofNat k:UInt8)<=c):=by
 have e:(OfNat.ofNat k:Int)=((OfNat.ofNat k:Nat):Int):=rfl;have h2:(OfNat.ofNat k:UInt8).toNat=(OfNat.ofNat k:Nat):=by
  show (UInt8.ofNat k).toNat=k;rw[UInt8.toNat_ofNat'];exact Nat.mod_eq_of_lt hk
 rw[Bool.eq_iff_iff,decide_eq_true_eq,decide_eq_true_eq,UInt8.le_iff_toNat_le,h2,e];omega
theorem jja(k:Nat)(c:UInt8)(hk:OfNat.ofNat k < 256):decide ((c.toNat:Int)<=(no_index (OfNat.ofNat k:Int)))=decide (c<=(OfNat.ofNat k:UInt8)):=by
 have e:(OfNat.ofNat k:Int)=((OfNat.ofNat k:Nat):Int):=rfl;have h2:(OfNat.ofNat k:UInt8).toNat=(OfNat.ofNat k:Nat):=by
  show (UInt8.ofNat k).toNat=k;rw[UInt8.toNat_ofNat'];exact Nat.mod_eq_of_lt hk
 rw[Bool.eq_iff_iff,decide_eq_true_eq,decide_eq_true_eq,UInt8.le_iff_toNat_le,h2,e];omega
theorem vMa(a b c:Int):R_In a b c=some (decide (b<=a) && decide (a<=c)):=by
 unfold R_In;cases decide (b<=a) <;> rfl
theorem jka(c:UInt8):vZa c=some (WOa c):=by
 unfold vZa WOa;simp only[vMa,Option.bind_some,jia 97 c (by decide),jja 122 c (by decide),jia 65 c (by decide),jja 90 c (by decide),jia 48 c (by decide),jja 57 c (by decide)];generalize (decide ((97:UInt8)<=c) && decide (c<=122))=x;generalize (decide ((65:UInt8)<=c) && decide (c<=90))=y;cases x <;> cases y <;> simp
theorem ZRa(c:UInt8):vRa c=some (WOa c):=by
 unfold vRa WOa;simp only[jia 97 c (by decide),jja 122 c (by decide),jia 65 c (by decide),jja 90 c (by decide),jia 48 c (by decide),jja 57 c (by decide)];cases decide ((97:UInt8)<=c) <;> cases decide (c<=122) <;> cases decide ((65:UInt8)<=c) <;> cases decide (c<=90) <;> cases decide ((48:UInt8)<=c) <;> cases decide (c<=57) <;> rfl
def yfa(s:Str)(i:Nat):Bool:=if i=0 then true else s[i - 1]? ==some 46
def wDa:Bool->Str->Bool
 | _,[]=>true
 | p,c::r=>if c=46 then !p && !r.isEmpty && wDa true r else yka c && wDa false r
theorem z4b(p:Bool)(c:UInt8)(r:Str):wDa p (c::r)=if c=46 then !p && !r.isEmpty && wDa true r else yka c && wDa false r:=rfl
theorem wbb(s:Str)(p:Bool)(h:s≠ []∨p=false):wDa p s=(s.all yka && Zpa p s):=by
 induction s generalizing p with
 | nil=>simp[wDa,Zpa];rcases h with h | h <;> simp_all
 | cons c r ih=>
  unfold wDa Zpa;by_cases hc:c=46
  .subst hc;simp only[if_true,List.all_cons,show yka 46=true by decide,Bool.true_and];cases r with
   | nil=>simp[Zpa]
   | cons d r=>
    rw[ih true (.inl (by simp))];cases p <;> simp
  rw[if_neg hc,if_neg hc];rw[ih false (.inr rfl),List.all_cons,Bool.and_assoc]
theorem WPa(s:Str)(hs:s.length<=9223372036854775806):iter (vfa s) 0=some (if wDa true s then .inl () else .inr false):=by
 have:=yFb (body:=vfa s) s (fun i (_:Unit)=>(i:Int)) (fun i r _=>if wDa (yfa s i) r then .inl () else .inr false) (fun _=>by
  unfold vfa;rw[zMa];simp[wDa]) (fun p c r _ h=>?_) (s0:=0) () rfl
 .simpa[yfa]using this
 have hc:s[p.length]? =some c:=by simp[h]
 have hidx:=zCa hc;have hlen:s.length=p.length+r.length+1:=by rw[h];simp;omega
 have e1:w64 ((s.length:Int) - 1)=((s.length - 1:Nat):Int):=by rw[qja (by omega) (by omega)];omega
 have e2:w64 ((p.length:Int)+1)=((p.length+1:Nat):Int):=by rw[show ((p.length:Int)+1)=((p.length+1:Nat):Int) by omega,Zxa _ (by omega)]
 have hbody:vfa s (p.length:Int)=some (if c=46 then (if yfa s p.length || r.isEmpty then .out (.inr false) else .cont ((p.length+1:Nat):Int)) else if yka c then .cont ((p.length+1:Nat):Int) else .out (.inr false)):=by
  unfold vfa;rw[koa hc,hidx];simp only[cond_true,Option.bind_some,vMa,qJa c 46 (by decide),Kwa c 45 (by decide),Kwa c 46 (by decide),jia 97 c (by decide),jja 122 c (by decide),jia 48 c (by decide),jja 57 c (by decide),e1,e2];by_cases h46:c=46
  .subst h46;have hsm:(!(decide ((97:UInt8)<=46) && decide ((46:UInt8)<=122)))=true:=by decide
   have hsm2:(!(decide ((48:UInt8)<=46) && decide ((46:UInt8)<=57)))=true:=by decide
   simp only[beq_self_eq_true,cond_true,hsm,hsm2,if_true,bne_self_eq_false];by_cases h0:p.length=0
   .simp[h0,yfa]
   have h0' :((p.length:Int)==0)=false:=by rw[beq_eq_false_iff_ne];omega
   by_cases hl:r=[]
   .subst hl;have:((p.length:Int)==((s.length - 1:Nat):Int))=true:=by rw[hlen];simp
    simp[h0',this]
   have hr:r.isEmpty=false:=by simpa using hl
   have hrl:0 < r.length:=List.length_pos_iff.2 hl;have:((p.length:Int)==((s.length - 1:Nat):Int))=false:=by rw[hlen];simp;omega
   have e3:w64 ((p.length:Int) - 1)=((p.length - 1:Nat):Int):=by rw[qja (by omega) (by omega)];omega
   have hlt:p.length - 1 < s.length:=by omega
   simp only[h0',this,cond_false,e3,WNa hlt,Option.bind_some,hr,Bool.or_false,yfa,if_neg h0,List.getElem?_eq_getElem hlt];rw[qJa _ 46 (by decide)];by_cases hd:s[p.length - 1]=46
   .simp[hd]
   have:(s[p.length - 1]==46)=false:=by simpa using hd
   simp[this,hd]
  have h1:(c==46)=false:=by simpa using h46
  have h2:(c !=46)=true:=by simpa using h46
  simp only[h1,cond_false,if_neg h46,Option.bind_some,yka,h2];by_cases ha:(decide ((97:UInt8)<=c) && decide (c<=122))=true
  .simp[ha]
  have ha:(decide ((97:UInt8)<=c) && decide (c<=122))=false:=by simpa using ha
  by_cases hb:(decide ((48:UInt8)<=c) && decide (c<=57))=true
  .simp[ha,hb]
  have hb:(decide ((48:UInt8)<=c) && decide (c<=57))=false:=by simpa using hb
  by_cases h45:c=45
  .subst h45;simp[ha,hb]
  have:(c==45)=false:=by simpa using h45
  simp[ha,hb,this,bne]
 have hp1:yfa s (p.length+1)=decide (c=46):=by
  unfold yfa;simp only[Nat.add_sub_cancel,Nat.add_one_ne_zero,if_false,hc];rw[Bool.eq_iff_iff];simp
 rw[hbody];rw[z4b];by_cases h46:c=46
 .subst h46;simp only[if_true];cases hq:(yfa s p.length || r.isEmpty) with
  | true=>
   left;simp only[if_true];have:(!yfa s p.length && !r.isEmpty && wDa true r)=false:=by
    cases hp:yfa s p.length <;> simp_all
   rw[this];rfl
  | false=>
   right;refine ⟨(),rfl,?_⟩;have h3:yfa s p.length=false:=by cases hp:yfa s p.length <;> simp_all
   have h4:r.isEmpty=false:=by cases hp:r.isEmpty <;> simp_all
   rw[h3,h4,hp1];simp
 simp only[if_neg h46];cases hq:yka c with
 | true=>right;exact ⟨(),rfl,by rw[hp1];simp[h46]⟩
 | false=>left;simp
theorem J5a(s:Str)(hs:s.length<=9223372036854775806):Q6a s=some (domP s):=by
 unfold Q6a;rw[WPa s hs];by_cases hn:s=[]
 .subst hn;simp[wDa,vMa,domP,Zpa]
 rw[wbb s true (.inl hn)];have hpos:0 < s.length:=List.length_pos_iff.2 hn;unfold domP;cases h:(s.all yka && Zpa true s) with
 | false=>
  rw[Bool.and_assoc,h];simp
 | true=>
  rw[Bool.and_assoc,h];simp only[if_true,Option.bind_some,vMa,Bool.and_true,Sum.elim_inl,Option.some.injEq];rw[Bool.eq_iff_iff];simp;omega
theorem yGb(s:Str)(hs:s.length<=9223372036854775806):yCb s=some ((atP s:Nat):Int):=by
 unfold yCb;rw[zTa s (fun i c=>if c==64 then some (i:Int) else none) (.inl ()) .inr]
 .simp only[Option.bind_some];have key:∀(r:Str) (n:Nat),(zya (fun i (c:UInt8)=>if c==64 then some (i:Int) else none) n r).getD ((n+r.length:Nat):Int)=((n+r.findIdx (· ==64):Nat):Int):=by
   intro r;induction r with
   | nil=>intro n;simp[zya]
   | cons c r ih=>
    intro n;unfold zya;rw[List.findIdx_cons];cases hc:(c==64) with
    | true=>simp
    | false=>
     simp only[Bool.false_eq_true,if_false,cond_false];have:=ih (n+1);rw[show n+(c::r).length=n+1+r.length by simp;omega,show n+(r.findIdx (· ==64)+1)=n+1+r.findIdx (· ==64) by omega];exact this
  have:=key s 0;rw[Nat.zero_add,Nat.zero_add]at this;unfold atP;rw[<-this];cases zya (fun i (c:UInt8)=>if c==64 then some (i:Int) else none) 0 s <;> rfl
 .unfold WKa;rw[zMa];rfl
 intro i c hc;unfold WKa;have hi:=zLa hc;rw[koa hc,zCa hc];simp only[cond_true,Option.bind_some,qJa c 64 (by decide)];cases c==64 with
 | true=>rfl
 | false=>
  simp only[cond_false,Bool.false_eq_true,if_false];rw[show ((i:Int)+1)=((i+1:Nat):Int) by omega,Zxa _ (by omega)];rfl
theorem YBa(s:Str)(hs:s.length<=9223372036854775806):yFa s=some (k3a s):=by
 have hat:atP s<=s.length:=List.findIdx_le_length;unfold yFa;rw[yGb s hs];simp only[Option.bind_some];have hloop:iter (wJa s (atP s:Int)) 0=some ((zya (fun _ c=>if !VUa c then some false else none) 0 (s.take (atP s))).elim (.inl ()) .inr):=by
  refine zTa (s.take (atP s)) _ (Sum.inl ()) Sum.inr ?_ ?_
  .have:((s.take (atP s)).length:Int)=(atP s:Int):=by simp;omega
   unfold wJa;rw[this];simp
  intro i c hc;have hi:=zLa hc;simp at hi;have hc2:s[i]? =some c:=by rw[List.getElem?_take_of_lt (by omega)]at hc;exact hc
  unfold wJa;have:decide ((i:Int) < (atP s:Int))=true:=by simp;omega
  rw[this,zCa hc2];simp only[cond_true,Option.bind_some,jka,Kwa c 45 (by decide),Kwa c 95 (by decide),Kwa c 46 (by decide),Kwa c 43 (by decide),Kwa c 61 (by decide)];rw[show ((i:Int)+1)=((i+1:Nat):Int) by omega,Zxa _ (by omega)];unfold VUa;cases WOa c <;> cases h1:(c==45) <;> cases h2:(c==95) <;> cases h3:(c==46) <;> cases h4:(c==43) <;> cases h5:(c==61) <;> simp[bne,h1,h2,h3,h4,h5]
 rw[hloop,jRa];unfold k3a;have hall:(s.take (atP s)).any (fun c=> !VUa c)= !((s.take (atP s)).all VUa):=by simp[List.not_all_eq_any_not]
 rw[hall];cases hg:(s.take (atP s)).all VUa with
 | false=>simp
 | true=>
  simp only[Bool.not_true,Bool.false_eq_true,if_false,Option.bind_some,vMa,Bool.and_true];by_cases h1:1<=atP s/\atP s<=60
  .have e1:(decide ((1:Int)<=(atP s:Int)) && decide ((atP s:Int)<=60))=true:=by simp;omega
   rw[e1];by_cases h2:atP s < s.length
   .have e2:decide ((atP s:Int) < (s.length:Int))=true:=by simp;omega
    rw[e2];simp only[cond_true];rw[show ((atP s:Int)+1)=((atP s+1:Nat):Int) by omega,Zxa _ (by omega),jha (by omega)];simp only[Option.bind_some];rw[J5a _ (by simp;omega)];simp[h1,h2]
   have e2:decide ((atP s:Int) < (s.length:Int))=false:=by simp;omega
   rw[e2];simp[h2]
  have e1:(decide ((1:Int)<=(atP s:Int)) && decide ((atP s:Int)<=60))=false:=by
   rw[Bool.eq_false_iff];simp;omega
  rw[e1];simp only[cond_false,Option.bind_some]
  congr 1
  symm
  rcases Nat.lt_or_ge (atP s) 1 with h | h
  .have:decide (1<=atP s)=false:=by simp;omega
   rw[this];simp
  have:decide (atP s<=60)=false:=by simp;omega
  rw[this];simp
theorem J6a(s:Str):∀p,Zpa p s=(!(p && (s.isEmpty || s.head? ==some 46)) && !(s.getLast? ==some 46) && !Lib.contains s [46,46]):=by
 induction s with
 | nil=>intro p;cases p <;> simp[Zpa,Lib.contains,Lib.index]
 | cons c r ih=>
  intro p;have hcont:Lib.contains (c::r) [46,46]=((c==46 && r.head? ==some 46) || Lib.contains r [46,46]):=by
   unfold Lib.contains;rw[Lib.index];have hpre:([46,46]:List UInt8).isPrefixOf (c::r)=(c==46 && r.head? ==some 46):=by
    cases r with
    | nil=>simp[List.isPrefixOf]
    | cons d r=>simp only[List.isPrefixOf,List.head?_cons,Bool.and_true];rw[Bool.eq_iff_iff];simp;constructor <;> rintro ⟨rfl,rfl⟩ <;> exact ⟨rfl,rfl⟩
   rw[hpre];have hg:=Lib.index_ge r [46,46];cases c==46 && r.head? ==some 46 with
   | true=>simp
   | false=>
    simp only[Bool.false_eq_true,if_false,Bool.false_or];by_cases h:Lib.index r [46,46]= -1
    .simp[h]
    have:(Lib.index r [46,46]== -1)=false:=by simpa using h
    rw[this];simp only[Bool.false_eq_true,if_false];rw[Bool.eq_iff_iff];simp;omega
  rw[hcont,Zpa];have hlast:(c::r).getLast? =if r.isEmpty then some c else r.getLast? :=by cases r <;> simp
  rw[hlast];by_cases hc:c=46
  .subst hc;rw[if_pos rfl,ih true];cases r with
   | nil=>simp
   | cons d r=>cases p <;> cases hd:(d==46) <;> simp_all [Bool.and_comm,Bool.and_assoc,Bool.and_left_comm]
  have h1:(c==46)=false:=by simpa using hc
  have h2:(some c==some (46:UInt8))=false:=by simpa using hc
  rw[if_neg hc,ih false];cases r with
  | nil=>simp[h1,h2,Lib.contains,Lib.index,hc]
  | cons d r=>simp[h1,h2,hc]
theorem Kxa(s t:Str):kva s t=some (t.isPrefixOf s):=by
 unfold kva z3a;by_cases h:t.length<=s.length
 .have:decide ((t.length:Int)<=(s.length:Int))=true:=by simp;omega
  rw[this,Zoa h];simp only[cond_true,Option.bind_some,Option.some.injEq];rw[Bool.eq_iff_iff,beq_iff_eq,List.isPrefixOf_iff_prefix,List.prefix_iff_eq_take];constructor <;> exact fun h=>h.symm
 have:decide ((t.length:Int)<=(s.length:Int))=false:=by simp;omega
 rw[this];simp only[cond_false,Option.bind_some,Option.some.injEq]
 symm
 rw[Bool.eq_false_iff];intro hp;exact h (List.isPrefixOf_iff_prefix.1 hp).length_le
theorem Kya(s t:Str)(hs:s.length<=9223372036854775806):kwa s t=some (t.isSuffixOf s):=by
 unfold kwa z4a;by_cases h:t.length<=s.length
 .have:decide ((t.length:Int)<=(s.length:Int))=true:=by simp;omega
  rw[this,w64_ns _ _ h (by omega),jha (by omega)];simp only[cond_true,Option.bind_some,Option.some.injEq];rw[Bool.eq_iff_iff,beq_iff_eq,List.isSuffixOf_iff_suffix,List.suffix_iff_eq_drop];constructor <;> exact fun h=>h.symm
 have:decide ((t.length:Int)<=(s.length:Int))=false:=by simp;omega
 rw[this];simp only[cond_false,Option.bind_some,Option.some.injEq]
 symm
 rw[Bool.eq_false_iff];intro hp;exact h (List.isSuffixOf_iff_suffix.1 hp).length_le
theorem dom_char(c:UInt8):((bif decide ((97:UInt8)<=c) then (bif decide (c<=122) then some true else (bif decide ((48:UInt8)<=c) then (bif decide (c<=57) then some true else (bif (c==45) then some true else some (c==46))) else (bif (c==45) then some true else some (c==46)))) else (bif decide ((48:UInt8)<=c) then (bif decide (c<=57) then some true else (bif (c==45) then some true else some (c==46))) else (bif (c==45) then some true else some (c==46)))):Option Bool)=some (yka c):=by
 unfold yka;cases decide ((97:UInt8)<=c) <;> cases decide (c<=122) <;> cases decide ((48:UInt8)<=c) <;> cases decide (c<=57) <;> cases (c==45) <;> rfl
theorem Qxa(s:Str)(hs:s.length < 4294967281):q2a s=some (domP s):=by
 have hloop:iter (k9a s) 0=some ((zya (fun _ c=>if !yka c then some () else none) 0 s).elim (.inl ()) .inr):=by
  refine zTa s _ (Sum.inl ()) Sum.inr ?_ ?_
  .unfold k9a;rw[zMa];rfl
  intro i c hc;have hi:=zLa hc;unfold k9a;rw[koa hc,zCa hc];simp only[cond_true,Option.bind_some,qJa c 45 (by decide),qJa c 46 (by decide),jia 97 c (by decide),jja 122 c (by decide),jia 48 c (by decide),jja 57 c (by decide),dom_char];rw[show ((i:Int)+1)=((i+1:Nat):Int) by omega,Zxa _ (by omega)];cases yka c <;> rfl
 unfold q2a domP;rw[hloop,jRa,J6a];by_cases hn:s=[]
 .subst hn;simp
 have h1:(s !=([]:Str))=true:=by simpa using hn
 rw[h1];simp only[cond_true];by_cases hl:s.length<=60
 .have h2:decide ((s.length:Int)<=60)=true:=by simp;omega
  rw[h2];have hall:s.any (fun c=> !yka c)= !(s.all yka):=by simp[List.not_all_eq_any_not]
  rw[hall];cases hg:s.all yka with
  | false=>simp[hl]
  | true=>
   simp only[Bool.not_true,Bool.false_eq_true,if_false,Option.elim,Option.bind_some,cond_true,Kxa,Kya s [46] (by omega),kFa,if_pos hs];have hp:([46]:Str).isPrefixOf s=(s.head? ==some 46):=by
    cases s with
    | nil=>rfl
    | cons d r=>simp only[List.isPrefixOf,List.head?_cons,Bool.and_true];rw[Bool.eq_iff_iff];simp;exact ⟨fun h=>h.symm,fun h=>h.symm⟩
   have hsf:([46]:Str).isSuffixOf s=(s.getLast? ==some 46):=by
    rw[Bool.eq_iff_iff,List.isSuffixOf_iff_suffix,beq_iff_eq];constructor
    .rintro ⟨t,rfl⟩;simp
    intro h;obtain ⟨ys,rfl⟩:=List.getLast?_eq_some_iff.1 h;exact ⟨ys,rfl⟩
   have he:s.isEmpty=false:=by simpa using hn
   rw[hp,hsf,he];cases s.head? ==some 46 <;> cases s.getLast? ==some 46 <;> cases Lib.contains s [46,46] <;> simp[hl]
 have h2:decide ((s.length:Int)<=60)=false:=by simp;omega
 rw[h2];simp[hl]
theorem J7a(s:Str):Lib.index s [64]=if atP s < s.length then (atP s:Int) else -1:=by
 rw[Lib.index_one];unfold atP;induction s with
 | nil=>rfl
 | cons c r ih=>
  rw[Lib.indexByte,List.findIdx_cons];cases hc:(c==64) with
  | true=>simp
  | false=>
   simp only[Bool.false_eq_true,if_false,cond_false,List.length_cons];rw[ih];by_cases h:r.findIdx (· ==64) < r.length
   .simp only[if_pos h,if_pos (show r.findIdx (· ==64)+1 < r.length+1 by omega)];have:(((r.findIdx (· ==64):Nat):Int)== -1)=false:=by rw[beq_eq_false_iff_ne];omega
    rw[this];simp
   simp only[if_neg h,if_neg (show ¬(r.findIdx (· ==64)+1 < r.length+1) by omega)];simp
theorem cut_at(s:Str):Lib.cut s [64]=if atP s < s.length then (s.take (atP s),s.drop (atP s+1),true) else (s,[],false):=by
 unfold Lib.cut;rw[J7a];by_cases h:atP s < s.length
 .rw[if_pos h,if_pos h,if_pos (by omega)];simp
 rw[if_neg h,if_neg h,if_neg (by omega)]
def vhb(s:Str):Str × Str × Bool:=if atP s < s.length then (s.take (atP s),s.drop (atP s+1),k3a s) else (s,[],false)
theorem yHb(c:UInt8):(WOa c || decide (0<=Lib.indexByte [45,95,46,43,61] c))=VUa c:=by
 unfold VUa;by_cases h1:c=45
 .subst h1;decide
 by_cases h2:c=95
 .subst h2;decide
 by_cases h3:c=46
 .subst h3;decide
 by_cases h4:c=43
 .subst h4;decide
 by_cases h5:c=61
 .subst h5;decide
 rw[beq_eq_false_iff_ne.2 h1,beq_eq_false_iff_ne.2 h2,beq_eq_false_iff_ne.2 h3,beq_eq_false_iff_ne.2 h4,beq_eq_false_iff_ne.2 h5];simp[Lib.indexByte,Ne.symm h1,Ne.symm h2,Ne.symm h3,Ne.symm h4,Ne.symm h5]
theorem Vca(s:Str)(hs:s.length < 4294967281):vta s=some (vhb s):=by
 have hloop:∀v:Str × Str × Bool,v.1.length < 4294967281->iter (qka v) 0=some ((zya (fun _ c=>if !VUa c then some () else none) 0 v.1).elim (.inl ()) .inr):=by
  intro v hv;refine zTa v.1 _ (Sum.inl ()) Sum.inr ?_ ?_
  .unfold qka;rw[zMa];rfl
  intro i c hc;have hi:=zLa hc;unfold qka;rw[koa hc,zCa hc];simp only[cond_true,Option.bind_some,ZRa,zRa];rw[show ((i:Int)+1)=((i+1:Nat):Int) by omega,Zxa _ (by omega)];have hg:=yHb c;cases hl:WOa c with
  | true=>rw[hl]at hg;simp only[Bool.true_or]at hg;rw[<-hg];rfl
  | false=>rw[hl]at hg;simp only[Bool.false_or]at hg;rw[<-hg];cases decide (0<=Lib.indexByte [45,95,46,43,61] c) <;> rfl
 unfold vta qAa;rw[if_pos hs,cut_at];simp only[Option.bind_some];unfold vhb;by_cases h:atP s < s.length
 .simp only[if_pos h,cond_true];rw[hloop _ (by simp;omega),jRa];have hall:(s.take (atP s)).any (fun c=> !VUa c)= !((s.take (atP s)).all VUa):=by simp[List.not_all_eq_any_not]
  simp only[hall];have hlen:(s.take (atP s)).length=atP s:=by simp;omega
  rw[hlen,Qxa _ (by simp;omega)];unfold k3a;by_cases h0:atP s=0
  .simp[h0]
  have hne:(s.take (atP s) !=([]:Str))=true:=by
   simp only[bne_iff_ne,ne_eq];intro hx;have:=congrArg List.length hx;rw[hlen]at this;simp at this;omega
  rw[hne];by_cases h60:atP s<=60
  .have e:decide ((atP s:Int)<=60)=true:=by simp;omega
   rw[e];cases (s.take (atP s)).all VUa <;> simp[h,h60] <;> omega
  have e:decide ((atP s:Int)<=60)=false:=by simp;omega
  rw[e];simp[h60]
 simp[if_neg h]
theorem qvb(s:Str):(vhb s).2.2=k3a s:=by
 unfold vhb;by_cases h:atP s < s.length
 .rw[if_pos h]
 rw[if_neg h];unfold k3a;simp[h]
theorem kZa(s:Str)(hs:s.length < 4294967281):kda s=some (k3a s):=by
 unfold kda;rw[Vca s hs];simp[qvb]
theorem z5b(a b:List Str)(ha:a.length<=9223372036854775806):ZNa a b=some (a==b):=by
 unfold ZNa;by_cases hlen:a.length=b.length
 .have h1:((a.length:Int) !=(b.length:Int))=false:=by rw[hlen];simp
  rw[h1];simp only[cond_false];rw[zTa a (fun i x=>if b[i]? !=some x then some false else none) (.inl ()) .inr]
  .simp only[Option.bind_some];cases hf:zya (fun i x=>if b[i]? !=some x then some false else none) 0 a with
   | none=>
    rw[vLa]at hf;have:a=b:=by
     apply List.ext_getElem?;intro i;by_cases hi:i < a.length
     .have:=hf i a[i] (List.getElem?_eq_getElem hi);rw[Nat.zero_add]at this;rw[List.getElem?_eq_getElem hi];simp at this;exact this.symm
     rw[List.getElem?_eq_none (by omega),List.getElem?_eq_none (by omega)]
    subst this;simp
   | some r=>
    obtain ⟨i,x,hx,hq⟩:=K4a hf;rw[Nat.zero_add]at hq;split at hq
    .cases hq;rename_i hne;have:(a==b)=false:=by
      rw[beq_eq_false_iff_ne];rintro rfl;rw[hx]at hne;simp at hne
     rw[this];rfl
    cases hq
  .unfold jca;rw[zMa];rfl
  intro i x hx;have hi:=zLa hx;unfold jca;have hib:i < b.length:=by omega
  rw[koa hx,zCa hx,WNa hib,List.getElem?_eq_getElem hib];simp only[cond_true,Option.bind_some];rw[show ((i:Int)+1)=((i+1:Nat):Int) by omega,Zxa _ (by omega)];by_cases hxb:x=b[i]
  .subst hxb;simp
  have e1:(x !=b[i])=true:=by simpa using hxb
  have e2:(some b[i] !=some x)=true:=by simp;exact fun h=>hxb h.symm
  rw[e1,e2];rfl
 have h1:((a.length:Int) !=(b.length:Int))=true:=by simp;omega
 rw[h1];simp only[cond_true];have:(a==b)=false:=by rw[beq_eq_false_iff_ne];rintro rfl;exact hlen rfl
 rw[this]
section
theorem z6b{α:Type}(c:α->Bool)(l:List α):∀n:Nat,decide ((0:Int)<=(zya (fun i x=>if c x then some ((i:Nat):Int) else none) n l).getD (-1))=l.any c:=by
 induction l with
 | nil=>intro n;rfl
 | cons x l ih=>
  intro n;unfold zya;cases hc:c x with
  | true=>simp[hc]
  | false=>simp only[Bool.false_eq_true,if_false,List.any_cons,hc,Bool.false_or];exact ih (n+1)
theorem vib(o:Option Int):Sum.elim (fun _=>some (-1)) (fun b=>some b) (o.elim (Sum.inl ()) Sum.inr:Unit ⊕ Int)=some (o.getD (-1)):=by cases o <;> rfl
theorem sc(i:Nat)(h:i < 9223372036854775807):w64 ((i:Int)+1)=((i+1:Nat):Int):=by rw[show ((i:Int)+1)=((i+1:Nat):Int) by omega,Zxa _ (by omega)]
theorem bkL_pos{T:Type}(bk:T->Nat)(l:List T):1<=bkL bk l:=by
 induction l with
 | nil=>simp[bkL]
 | cons y l ih=>unfold bkL;omega
theorem bkL_mem{T:Type}{bk:T->Nat}{l:List T}{x:T}(h:x∈l):bk x+1<=bkL bk l:=by
 induction l with
 | nil=>cases h
 | cons y l ih=>
  unfold bkL;have hp:=bkL_pos bk l;rcases List.mem_cons.1 h with rfl | h
  .omega
  have:=ih h;omega
theorem J8a{T:Type}{bk:T->Nat}(hb:∀x,1<=bk x)(l:List T):l.length+1<=bkL bk l:=by
 induction l with
 | nil=>simp[bkL]
 | cons y l ih=>unfold bkL;have:=hb y;simp;omega
section
variable {α:Type}
end
theorem wcb{V:Type}(m:List (Str × V))(k:Str)(v:V)(x:Str):mget (mput m k v) x=if k==x then some v else mget m x:=by
 induction m with
 | nil=>rfl
 | cons p m ih=>
  obtain ⟨k',v'⟩:=p;unfold mput;by_cases h:k' =k
  .subst h;simp only[beq_self_eq_true,if_true,mget];cases k' ==x <;> simp
  have h1:(k' ==k)=false:=by simpa using h
  rw[h1];simp only[Bool.false_eq_true,if_false,mget];rw[ih];by_cases h2:k' =x
  .subst h2;have:(k==k')=false:=by simpa using fun h' =>h h'.symm
   simp[this]
  have:(k' ==x)=false:=by simpa using h2
  rw[this];simp
section
variable {α A S O:Type}
theorem J9a(l:List α)(enc:Int->S->A)(f:S->α->S)(out:S->O)(Inv:Nat->S->Prop){body:A->Option (Step A O)}
 (hl:∀s,Inv l.length s->body (enc l.length s)=some (.out (out s)))
 (hs:∀(i:Nat) x s,l[i]? =some x->Inv i s->body (enc i s)=some (.cont (enc ((i+1:Nat):Int) (f s x)))/\Inv (i+1) (f s x)):
 ∀(r p:List α) (s:S),l=p++r->Inv p.length s->iter body (enc (p.length:Int) s)=some (out (r.foldl f s)):=by
 intro r;induction r with
 | nil=>
  intro p s h hi;have:p=l:=by simp[h]
  subst this;exact zAa (hl s hi)
 | cons x r ih=>
  intro p s h hi;obtain ⟨h1,h2⟩:=hs p.length x s (by simp[h]) hi;rw[zOa h1];have:=ih (p++ [x]) (f s x) (by simp[h]) (by simpa using h2);simpa using this
end
end
theorem KKa(o:Option Unit)(a b:Bool):Sum.elim (fun _=>some a) (fun _=>some b) (o.elim (Sum.inl ()) Sum.inr:Unit ⊕ Unit)=some (bif o.isSome then b else a):=by cases o <;> rfl
theorem Zea{α R:Type}(c:α->Bool)(r:R)(l:List α)(n:Nat):(zya (fun _ x=>if c x then some r else none) n l).isSome=l.any c:=by
 rw[jRa];cases l.any c <;> rfl
theorem zab{α:Type}(l:List α)(p:α->Bool):l.any (fun x=> !p x)= !l.all p:=by simp[List.not_all_eq_any_not]
theorem K5a(a b:Int):R_At a b=some ⟨a,b⟩:=rfl
theorem zWa(a b:Int):zta a b=some ⟨a,b⟩:=rfl
theorem kAa:kha=some ⟨0,0⟩:=rfl
theorem zQa(f:zra):zKa f=some (f.Code !=0):=rfl
theorem Y6a(o:Option zra)(f:zra):Sum.elim (fun _=>some f) (fun b=>some b) (o.elim (Sum.inl ()) Sum.inr:Unit ⊕ zra)=some (o.getD f):=by cases o <;> rfl
def qwb(c:UInt8):Bool:=WOa c || c==45 || c==95 || c==46
def v9a(s:Str):Bool:=decide (1<=s.length) && decide (s.length<=60) && s.all qwb
theorem yIb{s:Str}(h:v9a s=true):1<=s.length/\s.length<=60:=by
 unfold v9a at h;simp only[Bool.and_eq_true,decide_eq_true_eq]at h;exact ⟨h.1.1,h.1.2⟩
theorem WQa(s:Str)(hs:s.length<=1048576):Wga s=some (v9a s):=by
 unfold Wga;rw[zTa s (fun _ c=>if !qwb c then some false else none) (.inl ()) .inr,jRa,zab]
 .simp only[Option.bind_some,vMa];unfold v9a;have e1:decide ((1:Int)<=(s.length:Int))=decide (1<=s.length):=by rw[Bool.eq_iff_iff];simp;omega
  have e2:decide ((s.length:Int)<=60)=decide (s.length<=60):=by rw[Bool.eq_iff_iff];simp;omega
  rw[<-e1,<-e2];cases s.all qwb <;> simp
 .unfold KYa;rw[zMa];rfl
 intro i c hc;have hi:=zLa hc;unfold KYa;rw[koa hc,zCa hc];simp only[cond_true,Option.bind_some,jka,Kwa c 45 (by decide),Kwa c 95 (by decide),Kwa c 46 (by decide),sc i (by omega)];unfold qwb bne;cases WOa c <;> cases (c==45) <;> cases (c==95) <;> cases (c==46) <;> rfl
theorem Zfa(s:Str)(hs:s.length<=1048576):wva s=some (v9a s):=by
 have hloop:iter (v0a s) 0=some ((zya (fun _ c=>if !qwb c then some () else none) 0 s).elim (.inl ()) .inr):=by
  refine zTa s _ (Sum.inl ()) Sum.inr ?_ ?_
  .unfold v0a;rw[zMa];rfl
  intro i c hc;have hi:=zLa hc;unfold v0a;rw[koa hc,zCa hc];simp only[cond_true,Option.bind_some,ZRa,qJa c 45 (by decide),qJa c 95 (by decide),qJa c 46 (by decide),sc i (by omega)];unfold qwb;cases WOa c <;> cases (c==45) <;> cases (c==95) <;> cases (c==46) <;> rfl
 unfold wva v9a;rw[hloop];simp only[Option.bind_some,KKa,Zea,zab];by_cases hn:s=[]
 .subst hn;rfl
 have h1:(s !=([]:Str))=true:=by simpa using hn
 have h2:decide (1<=s.length)=true:=by have:=List.length_pos_iff.2 hn;simp;omega
 have e2:decide ((s.length:Int)<=60)=decide (s.length<=60):=by rw[Bool.eq_iff_iff];simp;omega
 rw[h1,h2,e2];cases decide (s.length<=60) <;> cases s.all qwb <;> rfl
def k4a(n:Int):Bool:=decide (0<=n) && decide (n<=7)
def recQ(l:List zca)(i:Nat)(r:zca):Option zra:=
 if !k3a r.Address then some ⟨10,i⟩ else if !k4a r.Notify then some ⟨3,i⟩ else if (l.take i).any (fun x=>x.Address==r.Address) then some ⟨7,i⟩ else none
def recF(l:List zca):zra:=(zya (recQ l) 0 l).getD ⟨0,0⟩
def fromB(s:Str):Bool:=s !=([]:Str) && !k3a s
def envF(e:kaa):zra:=if fromB e.From then ⟨10, -10⟩ else if decide (e.To.length < 1) || decide (60 < e.To.length) then ⟨2, -11⟩ else if e.Id !=([]:Str) && !v9a e.Id then ⟨10, -12⟩ else recF e.To
def WRa(l:List zca):Prop:=l.length<=1048576/\∀a∈l,a.Address.length<=1048576
def yJb(e:kaa):Prop:=e.From.length<=1048576/\e.Id.length<=1048576/\WRa e.To
theorem wdb(l:List zca)(s:Str)(hl:l.length<=1048576):qrb l s=some ((zya (fun i x=>if x.Address==s then some ((i:Nat):Int) else none) 0 l).getD (-1)):=by
 unfold qrb;rw[zTa l (fun i x=>if x.Address==s then some ((i:Nat):Int) else none) (.inl ()) .inr]
 .simp only[Option.bind_some,vib]
 .unfold Q7a;rw[zMa];rfl
 intro i x hx;have hi:=zLa hx;unfold Q7a;rw[koa hx,zCa hx];simp only[cond_true,Option.bind_some,sc i (by omega)];cases x.Address==s <;> rfl
theorem waa(n:Int):kVa n=some (k4a n):=by unfold kVa k4a;cases decide (0<=n) <;> rfl
theorem any_take(l:List zca)(i:Nat)(s:Str)(hl:l.length<=1048576):decide ((0:Int)<=(zya (fun i x=>if x.Address==s then some ((i:Nat):Int) else none) 0 (l.take i)).getD (-1))=(l.take i).any (fun x=>x.Address==s):=z6b (fun x=>x.Address==s) (l.take i) 0
theorem wja(l:List zca)(h:WRa l):kfa l=some (recF l):=by
 obtain ⟨h3,h4⟩:=h;unfold kfa recF;rw[zTa l (recQ l) (.inl ()) .inr]
 .simp only[Option.bind_some,kAa,Y6a]
 .unfold k1a;rw[zMa];rfl
 intro i r hr;have hi:=zLa hr;have ha:=h4 r (List.mem_of_getElem? hr);have hl2:iter (ksa r (l.take i)) 0=some ((zya (fun i x=>if x.Address==r.Address then some ((i:Nat):Int) else none) 0 (l.take i)).elim (.inl ()) .inr):=by
  refine zTa (l.take i) _ (Sum.inl ()) Sum.inr ?_ ?_
  .unfold ksa;rw[zMa];rfl
  intro k x hx;have hk:=zLa hx;simp at hk;unfold ksa;rw[koa hx,zCa hx];simp only[cond_true,Option.bind_some,sc k (by omega)];cases x.Address==r.Address <;> rfl
 unfold k1a recQ;rw[koa hr,zCa hr];simp only[cond_true,Option.bind_some,kZa _ (show r.Address.length < 4294967281 by omega),zWa,waa,Zoa (Nat.le_of_lt hi),hl2,vib,any_take _ _ _ h3,sc i (by omega)];cases k3a r.Address <;> cases k4a r.Notify <;> cases (l.take i).any (fun x=>x.Address==r.Address) <;> rfl
theorem Kza(e:kaa)(h:yJb e):qla e=some (envF e):=by
 obtain ⟨h1,h2,h3⟩:=h;unfold qla envF;rw[kZa _ (by omega),Zfa _ h2,wja _ h3];have e1:decide ((e.To.length:Int) < 1)=decide (e.To.length < 1):=by generalize e.To.length=n;rw[Bool.eq_iff_iff];simp;omega
 have e2:decide ((60:Int) < (e.To.length:Int))=decide (60 < e.To.length):=by rw[Bool.eq_iff_iff];simp;omega
 simp only[Option.bind_some,zWa,e1,e2];unfold fromB;cases e.From !=([]:Str) <;> cases k3a e.From <;> cases decide (e.To.length < 1) <;> cases decide (60 < e.To.length) <;> cases e.Id !=([]:Str) <;> cases v9a e.Id <;> rfl
theorem yKb{l:List zca}(h:bkL zca.bk l<=1048576):WRa l:=by
 refine ⟨?_,fun a ha=>?_⟩
 .have:=J8a (bk:=zca.bk) (fun x=>by unfold zca.bk;omega) l;omega
 have h5:=bkL_mem (bk:=zca.bk) ha;have h6:zca.bk a=a.Address.length+1+1+1:=rfl;omega
theorem zbb(s:Str)(i:Nat)(h:i < s.length):(strB s)[i]'(by rw[zBa];exact h)=s[i]:=rfl
theorem yLb(s:Str)(i:Nat)(h:i < s.length):(strB s).get! i=s[i]:=by
 have:=get_at (strB s) i (by rw[zBa];exact h);rw[Nat.add_zero]at this;rw[this];rfl
theorem Y7a{s:Str}{i:Nat}{c:UInt8}(h:s[i]? =some c)(hc:c.toNat < 128):KIa s i=(c.toNat:Int)/\jIa s i=1:=by
 have hi:=zLa h;have e:s[i]=c:=by rw[List.getElem?_eq_getElem hi]at h;exact Option.some.inj h
 have hd:=decode_ascii (strB s) i (by rw[zBa];exact hi) (by rw[zbb s i hi,e];exact hc);unfold KIa jIa;rw[hd,zbb s i hi,e];exact ⟨rfl,rfl⟩
theorem yMb{s:Str}{i:Nat}{c:UInt8}(h:s[i]? =some c)(hc:128<=c.toNat):128<=KIa s i/\KIa s i<=2147483647/\1<=jIa s i:=by
 have hi:=zLa h;have e:s[i]=c:=by rw[List.getElem?_eq_getElem hi]at h;exact Option.some.inj h
 have hd:=decode_high (strB s) i (by rw[zBa];exact hi) (by rw[zbb s i hi,e];exact hc);have hl:=decode_le (strB s) i;unfold KIa jIa;exact ⟨by omega,by omega,hd.2⟩
theorem qxb(s:ByteArray)(pos:Nat):∀k,1<=k->k < (Utf8.decode s pos).2->(s.get! (pos+k)).toNat / 64=2:=by
 intro k h1 h2;simp only[Utf8.decode]at h2;repeat' split at h2
 all_goals first
  | (exfalso;simp at h2;omega)
  | (
   rename_i hq _;simp only[Bool.and_eq_true,decide_eq_true_eq,beq_iff_eq]at hq;have h2:k < 2:=h2;obtain rfl:k=1:=by omega
   exact hq.2.2)
  | (
   rename_i hq _;simp only[Bool.and_eq_true,decide_eq_true_eq,beq_iff_eq]at hq;have h2:k < 3:=h2;have:k=1∨k=2:=by omega
   rcases this with rfl | rfl
   .exact hq.1.2.2
   exact hq.2.2)
  | (
   rename_i hq _;simp only[Bool.and_eq_true,decide_eq_true_eq,beq_iff_eq]at hq;have h2:k < 4:=h2;have:k=1∨k=2∨k=3:=by omega
   rcases this with rfl | rfl | rfl
   .exact hq.1.1.2.2
   .exact hq.1.2.2
   exact hq.2.2)
theorem yNb{s:Str}{i j:Nat}{c d:UInt8}(h:s[i]? =some c)(hc:128<=c.toNat)(h1:i<=j)(h2:j < i+jIa s i)(hj:s[j]? =some d):128<=d.toNat:=by
 by_cases e:j=i
 .subst e;rw[h]at hj;cases hj;exact hc
 have hjl:=zLa hj;have e2:s[j]=d:=by rw[List.getElem?_eq_getElem hjl]at hj;exact Option.some.inj hj
 have:=qxb (strB s) i (j - i) (by omega) (by unfold jIa at h2;omega);rw[show i+(j - i)=j by omega,yLb s j hjl,e2]at this;omega
theorem toU8_nat(c:UInt8):toU8 (c.toNat:Int)=c:=by
 unfold toU8;have:=c.toNat_lt;rw[show ((c.toNat:Int) % 256).toNat=c.toNat by omega];simp
theorem Y8a{t:Str}(h:Y4a t=true){c:UInt8}(hc:c∈t):c.toNat < 128:=by
 unfold Y4a at h;rw[List.all_eq_true]at h;simpa using h c hc
theorem web{r:Int}(h:128<=r):∃m x,1<=m/\m<=3/\(wUa r).length=m+1/\(wUa r)[m]? =some x/\128<=x.toNat:=by
 unfold wUa;simp only[Utf8.encode];have hc:128<=(if Utf8.valid r=true then r.toNat else Utf8.runeError):=by
  split
  .omega
  decide
 generalize (if Utf8.valid r=true then r.toNat else Utf8.runeError)=c at hc;have hb:∀n:Nat,128<=(UInt8.ofNat (128+n % 64)).toNat:=by
  intro n;rw[UInt8.toNat_ofNat'];have:(128+n % 64) % 2 ^ 8=128+n % 64:=Nat.mod_eq_of_lt (by omega);rw[this];omega
 rw[if_neg (by omega)];split
 .exact ⟨1,_,by omega,by omega,rfl,rfl,hb c⟩
 split
 .exact ⟨2,_,by omega,by omega,rfl,rfl,hb c⟩
 exact ⟨3,_,by omega,by omega,rfl,rfl,hb c⟩
theorem YCa{t:Str}(h:∀c∈t,c.toNat < 128){x:UInt8}(hx:128<=x.toNat):Lib.indexByte t x= -1:=by
 have hc:=Lib.contains_iff_indexByte t x;have hn:t.contains x=false:=by
  rw[Bool.eq_false_iff];intro hm;have:=h x (by simpa using hm);omega
 rw[hn]at hc;have hge:=Lib.indexByte_ge t x;have:=of_decide_eq_false hc.symm;omega
theorem WSa(t:Str)(c:UInt8)(hc:c.toNat < 128):kia t (c.toNat:Int)=some (Lib.indexByte t c):=by
 unfold kia;have h1:decide ((0:Int)<=(c.toNat:Int))=true:=by simp
 have h2:decide ((c.toNat:Int) < 128)=true:=by simp;omega
 rw[h1,h2];simp only[cond_true,Option.bind_some,toU8_nat];rfl
theorem YDa(t:Str)(r:Int)(hr:128<=r)(ht:∀c∈t,c.toNat < 128)(hl:t.length<=4294967281):kia t r=some (-1):=by
 unfold kia;have h1:decide ((0:Int)<=r)=true:=by simp;omega
 have h2:decide (r < 128)=false:=by simp;omega
 rw[h1,h2];simp only[cond_true,cond_false,Option.bind_some];cases hq:r==65533 with
 | true=>
  simp only[cond_true];obtain ⟨o,ho,rfl⟩:=Wia (body:=qea t) (fun i=>i<=t.length) (fun i=>t.length - i) (fun _ o=>o=.inl ()) (fun i hi=>by
   unfold qea;by_cases hlt:i < t.length
   .right;have hg:t[i]? =some t[i]:=List.getElem?_eq_getElem hlt;have hc:=ht t[i] (List.getElem_mem hlt);obtain ⟨e1,e2⟩:=Y7a hg hc;rw[e1,e2,decide_eq_true hlt];have hne:((t[i].toNat:Int)==65533)=false:=by rw[beq_eq_false_iff_ne];omega
    rw[hne];exact ⟨i+1,rfl,by omega,by omega,fun _ h=>h⟩
   left;rw[decide_eq_false hlt];exact ⟨.inl (),rfl,rfl⟩) 0 (Nat.zero_le _)
  rw[ho];rfl
 | false=>
  simp only[cond_false];have hv:∃b,kra r=some b:=by
   unfold kra;cases decide (0<=r) <;> cases decide (r < 55296) <;> cases decide (57343 < r) <;> cases decide (r<=1114111) <;> exact ⟨_,rfl⟩
  obtain ⟨b,hb⟩:=hv;rw[hb];simp only[Option.bind_some];cases b with
  | false=>rfl
  | true=>
   simp only[Bool.not_true,cond_false];obtain ⟨m,x,hm1,hm3,hlen,hx,hx128⟩:=web hr;have hst:w64 (((wUa r).length:Int) - 1)=(m:Int):=by rw[hlen,qja (by omega) (by omega)];omega
   rw[hst];have hbody:∃o,qga t r (m:Int)=some (.out o)/\(o=.inl ()∨o=.inr (-1)):=by
    unfold qga;by_cases hlt:m < t.length
    .have hd:decide ((m:Int) < (t.length:Int))=true:=by simp;omega
     have hc:=ht t[m] (List.getElem_mem hlt);rw[hd,hst,WNa hlt,zCa hx];have hne:((t[m].toNat:Int) !=(x.toNat:Int))=true:=by simp;omega
     simp only[cond_true,Option.bind_some,hne];rw[show (m:Int)+1=((m+1:Nat):Int) by omega,Zxa _ (by omega),jha (by omega)];simp only[Option.bind_some];have hib:zRa (t.drop (m+1)) x=some (-1):=by
      show some (Lib.indexByte (t.drop (m+1)) x)=_;rw[YCa (fun c hc=>ht c (List.mem_of_mem_drop hc)) hx128]
     rw[hib];exact ⟨.inr (-1),rfl,.inr rfl⟩
    have hd:decide ((m:Int) < (t.length:Int))=false:=by simp;omega
    rw[hd];exact ⟨.inl (),rfl,.inl rfl⟩
   obtain ⟨o,ho,ho2⟩:=hbody;rw[zAa ho];rcases ho2 with rfl | rfl <;> rfl
theorem z7b(s t:Str)(h8:s.length<=8)(h2:2<=t.length)(hl:t.length < 4294967281)(ht:Y4a t=true):vga s t=some (Lib.indexAny s t):=by
 have htc:∀c∈t,c.toNat < 128:=fun c hc=>Y8a ht hc
 unfold vga;have e1:(t==([]:Str))=false:=by rw[beq_eq_false_iff_ne];rintro rfl;simp at h2
 have e2:((t.length:Int)==1)=false:=by rw[beq_eq_false_iff_ne];omega
 have e3:zFa (s.length:Int)=some false:=by unfold zFa;simp;omega
 rw[e1,e2,e3];simp only[cond_false,Option.bind_some];obtain ⟨o,ho,ho2⟩:=Wia (body:=qha s t) (fun i=>Lib.NoAny s t i) (fun i=>s.length - i) (fun _ o=>Sum.elim (fun _=>some (-1)) (fun b=>some b) o=some (Lib.indexAny s t)) (fun i hi=>by
  unfold qha;by_cases hlt:i < s.length
  .have hg:s[i]? =some s[i]:=List.getElem?_eq_getElem hlt;rw[decide_eq_true hlt];simp only[cond_true];by_cases hc:s[i].toNat < 128
   .obtain ⟨q1,q2⟩:=Y7a hg hc;rw[q1,q2,WSa t _ hc];simp only[Option.bind_some];have hcon:=Lib.contains_iff_indexByte t s[i];rw[<-hcon];cases hin:t.contains s[i] with
    | true=>
     left;exact ⟨.inr (i:Int),rfl,by rw[Lib.indexAny_hit hi hg hin];rfl⟩
    | false=>
     right;exact ⟨i+1,rfl,hi.succ hg hin,by omega,fun _ h=>h⟩
   have hc:128<=s[i].toNat:=by omega
   obtain ⟨q1,q2,q3⟩:=yMb hg hc;rw[YDa t _ q1 htc (by omega)];right;refine ⟨i+jIa s i,rfl,fun j b hj hb=>?_,by omega,fun _ h=>h⟩;by_cases hji:j < i
   .exact hi j b hji hb
   have:=yNb hg hc (by omega) hj hb;rw[Bool.eq_false_iff];intro hm;have:=htc b (by simpa using hm);omega
  left;rw[decide_eq_false hlt];refine ⟨.inl (),rfl,?_⟩;have hn:Lib.NoAny s t s.length:=fun j b hj hb=>hi j b (by omega) hb
  rw[Lib.indexAny_none hn];rfl) 0 (Lib.NoAny.zero s t)
 rw[ho];exact ho2
theorem z8b(t:Str):∀s:Str,decide (0<=Lib.indexAny s t)=s.any fun c=>t.contains c:=by
 intro s;induction s with
 | nil=>rfl
 | cons c s ih=>
  have hge:=Lib.indexAny_ge t s;rw[List.any_cons,<-ih,Lib.indexAny];cases t.contains c with
  | true=>simp
  | false=>
   simp only[Bool.false_eq_true,if_false,Bool.false_or];by_cases h:Lib.indexAny s t= -1
   .simp[h]
   have:(Lib.indexAny s t== -1)=false:=by simpa using h
   rw[this];simp only[Bool.false_eq_true,if_false];rw[Bool.eq_iff_iff];simp;omega
theorem Zya(s t:Str)(hs:s.length<=1048576)(h2:2<=t.length)(hl:t.length<=1048576)(ht:Y4a t=true):kga s t=some (s.any fun c=>t.contains c):=by
 unfold kga k5a;rw[if_pos ⟨by omega,by omega,h2,ht⟩];simp only[Option.bind_some,z8b]
def zNa(c:UInt8):Bool:=c==32 || c==9
theorem yxa(c:UInt8):vqa c=some (zNa c):=by
 unfold vqa zNa;rw[qJa c 32 (by decide),qJa c 9 (by decide)];cases c==32 <;> rfl
theorem jya(c:UInt8):qBa c=some (zNa c):=by
 unfold qBa zNa;rw[qJa c 32 (by decide),qJa c 9 (by decide)];cases c==32 <;> rfl
def fnC(c:UInt8):Bool:=decide (33<=c) && decide (c<=126) && c !=58
def fnP(s:Str):Bool:=s !=([]:Str) && decide (s.length<=60) && s.all fnC
theorem dec60(s:Str):decide ((s.length:Int)<=60)=decide (s.length<=60):=by generalize s.length=n;rw[Bool.eq_iff_iff];simp;omega
theorem z9b(s:Str)(hs:s.length<=1048576):ZOa s=some (fnP s):=by
 have hloop:iter (wVa s) 0=some ((zya (fun _ c=>if !fnC c then some () else none) 0 s).elim (.inl ()) .inr):=by
  refine zTa s _ (Sum.inl ()) Sum.inr ?_ ?_
  .unfold wVa;rw[zMa];rfl
  intro i c hc;have hi:=zLa hc;unfold wVa;rw[koa hc,zCa hc];simp only[cond_true,Option.bind_some,Kwa c 58 (by decide),jia 33 c (by decide),jja 126 c (by decide),sc i (by omega)];unfold fnC;cases decide ((33:UInt8)<=c) <;> cases decide (c<=126) <;> cases c !=58 <;> rfl
 unfold ZOa fnP;rw[hloop];simp only[Option.bind_some,KKa,Zea,zab,dec60];cases s !=([]:Str) <;> cases decide (s.length<=60) <;> cases s.all fnC <;> rfl
def endC(c:UInt8):Bool:=c==13 || c==10 || c==0
theorem kab(s:Str)(hs:s.length<=1048576):ZPa s=some (s.any endC):=by
 unfold ZPa;rw[Zya s _ hs (by decide) (by decide) (by decide)];simp only[Option.bind_some,Option.some.injEq]
 congr 1
 funext c;rw[Bool.eq_iff_iff];simp[endC,or_assoc]
def yOb(s:Str):Bool:=match s.head?,s.getLast? with | some a,some b=>zNa a || zNa b | _,_=>false
def valP(s:Str):Bool:= !(s.any endC) && !(yOb s)
theorem vjb(s:Str)(h:s≠ [])(hs:s.length<=1048576):∃a b,idx s 0=some a/\idx s (w64 ((s.length:Int) - 1))=some b/\s.head? =some a/\s.getLast? =some b:=by
 have hpos:=List.length_pos_iff.2 h;obtain ⟨a,r,rfl⟩:=List.exists_cons_of_ne_nil h;have e:w64 (((a::r).length:Int) - 1)=((r.length:Nat):Int):=by
  have hl:(a::r).length=r.length+1:=rfl;rw[qja (by omega) (by omega)];omega
 refine ⟨a,(a::r).getLast h,rfl,?_,rfl,List.getLast?_eq_some_getLast h⟩;rw[e,wCa,List.getLast_eq_getElem h,List.getElem?_eq_getElem (by simp)]
 congr 2
theorem zcb(s:Str)(hs:s.length<=1048576):jMa s=some (valP s):=by
 unfold jMa valP;rw[kab s hs];simp only[Option.bind_some];by_cases hn:s=[]
 .subst hn;rfl
 obtain ⟨a,b,h1,h2,h3,h4⟩:=vjb s hn hs;have e:(s==([]:Str))=false:=by simpa using hn
 unfold yOb;rw[h1,h2,h3,h4,e];simp only[Option.bind_some,jya,cond_false];cases s.any endC <;> cases zNa a <;> cases zNa b <;> rfl
def br(t:Str)(f i:Nat):Bool:=decide (1<=i) && decide (f<=i) && (match t[i]?,t[i - 1]? with | some a,some b=>zNa a && !zNa b | _,_=>false)
def Vda(t:Str)(f:Nat):Nat->Nat
 | 0=>0
 | i+1=>if br t f (i+1) then i+1 else Vda t f i
def zdb(t:Str)(f:Nat):Nat->Nat->Nat
 | 0,_=>0
 | n+1,i=>if br t f i then i else zdb t f n (i+1)
def cutP(t:Str)(f:Nat):Nat:=if Vda t f 78=0 then zdb t f (t.length - 79) 79 else Vda t f 78
def qyb(t:Str)(f c:Nat):Prop:=(c=0/\∀j,br t f j=false)∨(br t f c=true/\((c<=78/\∀j,c < j->j<=78->br t f j=false)∨(78 < c/\∀j,j < c->br t f j=false)))
theorem yPb(t:Str)(f:Nat):br t f 0=false:=rfl
theorem qzb{t:Str}{f i:Nat}(h:br t f i=true):i < t.length/\1<=i/\f<=i:=by
 unfold br at h;simp only[Bool.and_eq_true,decide_eq_true_eq]at h;obtain ⟨⟨h1,h2⟩,h3⟩:=h;refine ⟨?_,h1,h2⟩;cases hi:t[i]? with
 | none=>rw[hi]at h3;simp at h3
 | some a=>exact zLa hi
theorem kbb{t:Str}{f c d:Nat}(h:qyb t f c)(k:qyb t f d):c=d:=by
 rcases h with ⟨rfl,h⟩ | ⟨hc,h⟩ <;> rcases k with ⟨rfl,k⟩ | ⟨hd,k⟩
 .rfl
 .rw[h]at hd;cases hd
 .rw[k]at hc;cases hc
 rcases Nat.lt_trichotomy c d with hlt | heq | hgt
 .exfalso;rcases h with ⟨h1,h2⟩ | ⟨h1,h2⟩ <;> rcases k with ⟨k1,k2⟩ | ⟨k1,k2⟩
  .rw[h2 d hlt k1]at hd;cases hd
  .rw[k2 c hlt]at hc;cases hc
  .omega
  rw[k2 c hlt]at hc;cases hc
 .exact heq
 exfalso;rcases h with ⟨h1,h2⟩ | ⟨h1,h2⟩ <;> rcases k with ⟨k1,k2⟩ | ⟨k1,k2⟩
 .rw[k2 c hgt h1]at hc;cases hc
 .omega
 .rw[h2 d hgt]at hd;cases hd
 rw[h2 d hgt]at hd;cases hd
theorem wfb(t:Str)(f:Nat):∀n,(Vda t f n=0/\∀j,j<=n->br t f j=false)∨(br t f (Vda t f n)=true/\Vda t f n<=n/\∀j,Vda t f n < j->j<=n->br t f j=false):=by
 intro n;induction n with
 | zero=>left;exact ⟨rfl,fun j hj=>by
  obtain rfl:j=0:=by omega
  exact yPb t f⟩
 | succ n ih=>
  unfold Vda;by_cases h:br t f (n+1)=true
  .rw[if_pos h];right;exact ⟨h,Nat.le_refl _,fun j h1 h2=>by omega⟩
  rw[if_neg h];rcases ih with ⟨h1,h2⟩ | ⟨h1,h2,h3⟩
  .left;refine ⟨h1,fun j hj=>?_⟩;by_cases e:j=n+1
   .subst e;simpa using h
   exact h2 j (by omega)
  right;refine ⟨h1,by omega,fun j hj hjn=>?_⟩;by_cases e:j=n+1
  .subst e;simpa using h
  exact h3 j hj (by omega)
theorem wgb(t:Str)(f:Nat):∀n i,(zdb t f n i=0/\∀j,i<=j->j < i+n->br t f j=false)∨(br t f (zdb t f n i)=true/\i<=zdb t f n i/\∀j,i<=j->j < zdb t f n i->br t f j=false):=by
 intro n;induction n with
 | zero=>intro i;left;exact ⟨rfl,fun j h1 h2=>by omega⟩
 | succ n ih=>
  intro i;unfold zdb;by_cases h:br t f i=true
  .rw[if_pos h];right;exact ⟨h,Nat.le_refl _,fun j h1 h2=>by omega⟩
  rw[if_neg h];have hb:br t f i=false:=by simpa using h
  rcases ih (i+1) with ⟨h1,h2⟩ | ⟨h1,h2,h3⟩
  .left;refine ⟨h1,fun j hj hjn=>?_⟩;by_cases e:j=i
   .subst e;exact hb
   exact h2 j (by omega) (by omega)
  right;refine ⟨h1,by omega,fun j hj hjn=>?_⟩;by_cases e:j=i
  .subst e;exact hb
  exact h3 j (by omega) hjn
theorem yQb(t:Str)(f:Nat):qyb t f (cutP t f):=by
 unfold cutP;rcases wfb t f 78 with ⟨h1,h2⟩ | ⟨h1,h2,h3⟩
 .rw[if_pos h1];rcases wgb t f (t.length - 79) 79 with ⟨k1,k2⟩ | ⟨k1,k2,k3⟩
  .left;refine ⟨k1,fun j=>?_⟩;by_cases hj:j<=78
   .exact h2 j hj
   cases hb:br t f j with
   | false=>rfl
   | true=>have:=(qzb hb).1;rw[k2 j (by omega) (by omega)]at hb;cases hb
  right;refine ⟨k1,.inr ⟨by omega,fun j hj=>?_⟩⟩;by_cases hj2:j<=78
  .exact h2 j hj2
  exact k3 j (by omega) hj
 have hne:Vda t f 78≠0:=by intro h;rw[h,yPb]at h1;cases h1
 rw[if_neg hne];exact .inr ⟨h1,.inl ⟨h2,h3⟩⟩
theorem Koa{t:Str}{f:Nat}(h:cutP t f≠0):1<=cutP t f/\cutP t f < t.length:=by
 rcases yQb t f with ⟨h1,_⟩ | ⟨h1,_⟩
 .exact absurd h1 h
 exact ⟨(qzb h1).2.1,(qzb h1).1⟩
theorem br_at{t:Str}{f i:Nat}(h1:1<=i)(hi:i < t.length):br t f i=(decide (f<=i) && (zNa t[i] && !zNa (t[i - 1]'(by omega)))):=by
 unfold br;rw[List.getElem?_eq_getElem hi,List.getElem?_eq_getElem (show i - 1 < t.length by omega)];simp[h1]
def PInv(t:Str)(f b i:Nat):Prop:=f<=i/\1<=i/\((b=0/\∀j,j < i->br t f j=false)∨(br t f b=true/\b < i/\((b<=78/\∀j,b < j->j < i->br t f j=false)∨(78 < b/\∀j,j < b->br t f j=false))))
theorem PInv.done{t:Str}{f b i:Nat}(h:PInv t f b i)(hi:0 < b/\78 < i∨t.length<=i):qyb t f b:=by
 obtain ⟨hf,h1,h2⟩:=h;rcases h2 with ⟨rfl,h3⟩ | ⟨h3,h4,h5⟩
 .left;refine ⟨rfl,fun j=>?_⟩;cases hb:br t f j with
  | false=>rfl
  | true=>
   have:=(qzb hb).1;rw[h3 j (by omega)]at hb;cases hb
 right;refine ⟨h3,?_⟩;rcases h5 with ⟨h6,h7⟩ | h6
 .left;refine ⟨h6,fun j hj hj2=>?_⟩;cases hb:br t f j with
  | false=>rfl
  | true=>
   have:=(qzb hb).1;rw[h7 j hj (by omega)]at hb;cases hb
 exact .inr h6
theorem zeb(t:Str)(f:Nat)(ht:t.length<=4194304)(hf:f<=4194304):jNa t (f:Int)=some ((cutP t (max f 1):Nat):Int):=by
 unfold jNa;have hstart:max (f:Int) 1=((max f 1:Nat):Int):=by omega
 rw[hstart];obtain ⟨r,h1,b,rfl,h2⟩:=Wia (body:=yqa t) (fun s=>∃b i:Nat,s=((b:Int),(i:Int))/\PInv t (max f 1) b i/\i<=4194305) (fun s=>(4194306 - s.2).toNat) (fun _ r=>∃c:Nat,r=(c:Int)/\qyb t (max f 1) c) (by
  rintro _ ⟨b,i,rfl,hI,hil⟩;have hi1:=hI.2.1;unfold yqa;dsimp only;by_cases hlt:i < t.length
  .have hd:decide ((i:Int) < (t.length:Int))=true:=by simp;omega
   have hpre:w64 ((i:Int) - 1)=((i - 1:Nat):Int):=by rw[qja (by omega) (by omega)];omega
   rw[hd,WNa hlt,hpre,WNa (show i - 1 < t.length by omega)];have hb:=br_at (f:=max f 1) hi1 hlt;have hfi:decide (max f 1<=i)=true:=by simp only[decide_eq_true_eq];exact hI.1
   rw[hfi,Bool.true_and]at hb;simp only[cond_true,Option.bind_some,jya];have next:∀b' :Nat,PInv t (max f 1) b' (i+1)->qCa ((b:Int),(i:Int)) (b' :Int)=some (.cont ((b' :Int),((i+1:Nat):Int))):=by
    intro b' _;unfold qCa;dsimp only;rw[sc i (by omega)]
   have hno:br t (max f 1) i=false->PInv t (max f 1) b (i+1):=by
    intro hnb;refine ⟨by have:=hI.1;omega,by omega,?_⟩;rcases hI.2.2 with ⟨q1,q2⟩ | ⟨q1,q2,q3⟩
    .left;refine ⟨q1,fun j hj=>?_⟩;by_cases e:j=i
     .subst e;exact hnb
     exact q2 j (by omega)
    right;refine ⟨q1,by omega,?_⟩;rcases q3 with ⟨q4,q5⟩ | q4
    .left;refine ⟨q4,fun j hj hj2=>?_⟩;by_cases e:j=i
     .subst e;exact hnb
     exact q5 j hj (by omega)
    exact .inr q4
   have goNo:br t (max f 1) i=false->(∃s',qCa ((b:Int),(i:Int)) (b:Int)=some (.cont s')/\(∃b i:Nat,s' =((b:Int),(i:Int))/\PInv t (max f 1) b i/\i<=4194305)/\(4194306 - s'.2).toNat < (4194306 - ((i:Int))).toNat/\∀r:Int,(∃c:Nat,r=(c:Int)/\qyb t (max f 1) c)->∃c:Nat,r=(c:Int)/\qyb t (max f 1) c):=by
    intro hnb;exact ⟨_,next b (hno hnb),⟨b,i+1,rfl,hno hnb,by omega⟩,by dsimp only;omega,fun _ h=>h⟩
   cases ha:zNa t[i] with
   | false=>
    rw[ha]at hb;simp only[Bool.not_false,cond_true,Option.bind_some];exact .inr (goNo hb)
   | true=>
    rw[ha]at hb;simp only[Bool.not_true,cond_false,Option.bind_some];cases hp:zNa t[i - 1] with
    | true=>
     rw[hp]at hb;simp only[cond_true];exact .inr (goNo hb)
    | false=>
     rw[hp]at hb;have hb:br t (max f 1) i=true:=hb;simp only[cond_false];by_cases hb0:0 < b/\78 < i
     .left;have e1:decide ((0:Int) < (b:Int))=true:=by simp;omega
      have e2:decide ((78:Int) < (i:Int))=true:=by simp;omega
      rw[e1,e2];exact ⟨(b:Int),rfl,b,rfl,hI.done (.inl hb0)⟩
     right;have e:(bif decide ((0:Int) < (b:Int)) then some (decide ((78:Int) < (i:Int))) else some false)=some false:=by
      by_cases h0:0 < b
      .have e1:decide ((0:Int) < (b:Int))=true:=by simp;omega
       have e2:decide ((78:Int) < (i:Int))=false:=by simp;omega
       rw[e1,e2];rfl
      have e1:decide ((0:Int) < (b:Int))=false:=by simp;omega
      rw[e1];rfl
     rw[e];simp only[Option.bind_some,cond_false];have hnew:PInv t (max f 1) i (i+1):=by
      refine ⟨by have:=hI.1;omega,by omega,.inr ⟨hb,by omega,?_⟩⟩;by_cases h78:i<=78
      .exact .inl ⟨h78,fun j h1 h2=>by omega⟩
      right;refine ⟨by omega,?_⟩;rcases hI.2.2 with ⟨q1,q2⟩ | ⟨q1,q2,q3⟩
      .exact q2
      exfalso;have:=(qzb q1).2.1;omega
     exact ⟨_,next i hnew,⟨i,i+1,rfl,hnew,by omega⟩,by dsimp only;omega,fun _ h=>h⟩
  left;have hd:decide ((i:Int) < (t.length:Int))=false:=by simp;omega
  rw[hd];exact ⟨(b:Int),rfl,b,rfl,hI.done (.inr (by omega))⟩) ((0:Int),((max f 1:Nat):Int)) ⟨0,max f 1,rfl,⟨Nat.le_refl _,by omega,.inl ⟨rfl,fun j hj=>by
  cases hb:br t (max f 1) j with
  | false=>rfl
  | true=>have:=(qzb hb).2.2;omega⟩⟩,by omega⟩
 rw[h1];simp only[Option.bind_some];rw[kbb h2 (yQb t (max f 1))]
theorem R_cut_eq(t:Str)(f:Nat)(out:List Str)(ht:t.length<=4194304)(h78:78 < t.length)(hf:f<=4194304)(h1f:1<=f):((iter (kWa (t,(f:Int),out)) (0,78)).bind fun b10=>iter (kDa (t,(f:Int),out)) (b10,79))=some ((cutP t f:Nat):Int):=by
 have test:∀i:Nat,1<=i->i < t.length->((bif decide ((f:Int)<=(i:Int)) then (idx t (i:Int)).bind fun v18=>(vqa v18).bind fun v20=>(bif v20 then (idx t ((w64 ((i:Int) - 1)))).bind fun v23=>(vqa v23).bind fun v25=>some ((!v25)) else some false) else some false):Option Bool)=some (br t f i):=by
  intro i h1 h2;have hpre:w64 ((i:Int) - 1)=((i - 1:Nat):Int):=by rw[qja (by omega) (by omega)];omega
  rw[br_at h1 h2,WNa h2,hpre,WNa (show i - 1 < t.length by omega)];have e:decide ((f:Int)<=(i:Int))=decide (f<=i):=by rw[Bool.eq_iff_iff];simp
  rw[e];simp only[Option.bind_some,yxa];cases decide (f<=i) <;> cases zNa t[i] <;> rfl
 have hdn:∀i:Nat,i<=78->iter (kWa (t,(f:Int),out)) (0,(i:Int))=some ((Vda t f i:Nat):Int):=by
  intro i;induction i with
  | zero=>intro _;exact zAa (by unfold kWa;rfl)
  | succ i ih=>
   intro hi;have hb:kWa (t,(f:Int),out) (0,((i+1:Nat):Int))=some (.cont ((bif br t f (i+1) then ((i+1:Nat):Int) else 0),(i:Int))):=by
    unfold kWa;dsimp only;have e1:decide ((0:Int) < ((i+1:Nat):Int))=true:=by rw[decide_eq_true_eq];omega
    have e2:w64 (((i+1:Nat):Int) - 1)=(i:Int):=by rw[qja (by omega) (by omega)];omega
    rw[test (i+1) (by omega) (by omega),e1,e2];simp only[beq_self_eq_true,cond_true,Option.bind_some];cases br t f (i+1) <;> rfl
   rw[zOa hb];unfold Vda;cases hq:br t f (i+1) with
   | false=>simpa using ih (by omega)
   | true=>
    simp only[cond_true,if_true];refine zAa ?_;unfold kWa;dsimp only;have e3:((((i+1:Nat):Int))==0)=false:=by rw[beq_eq_false_iff_ne];omega
    rw[e3];cases decide ((0:Int) < (i:Int)) <;> rfl
 have h1:=hdn 78 (by omega);have e78:((78:Nat):Int)=78:=rfl;rw[e78]at h1;rw[h1];simp only[Option.bind_some];have hout:∀(c i:Nat),c≠0->iter (kDa (t,(f:Int),out)) ((c:Int),(i:Int))=some ((c:Nat):Int):=by
  intro c i hc;refine zAa ?_;unfold kDa;dsimp only;have e3:((c:Int)==0)=false:=by rw[beq_eq_false_iff_ne];omega
  rw[e3];cases decide ((i:Int) < (t.length:Int)) <;> rfl
 have hup:∀n i:Nat,i+n=t.length->1<=i->iter (kDa (t,(f:Int),out)) (0,(i:Int))=some ((zdb t f n i:Nat):Int):=by
  intro n;induction n with
  | zero=>
   intro i hi _;refine zAa ?_;unfold kDa;dsimp only;have:decide ((i:Int) < (t.length:Int))=false:=by rw[decide_eq_false_iff_not];omega
   rw[this];rfl
  | succ n ih=>
   intro i hi h1i;have hb:kDa (t,(f:Int),out) (0,(i:Int))=some (.cont ((bif br t f i then (i:Int) else 0),((i+1:Nat):Int))):=by
    unfold kDa;dsimp only;have e1:decide ((i:Int) < (t.length:Int))=true:=by simp;omega
    rw[test i h1i (by omega),e1,sc i (by omega)];simp only[beq_self_eq_true,cond_true,Option.bind_some];cases br t f i <;> rfl
   rw[zOa hb];unfold zdb;cases hq:br t f i with
   | false=>simpa using ih (i+1) (by omega) (by omega)
   | true=>
    simp only[cond_true,if_true];exact hout i (i+1) (by omega)
 unfold cutP;have e79:((79:Nat):Int)=79:=rfl;by_cases h0:Vda t f 78=0
 .rw[if_pos h0,h0];have:=hup (t.length - 79) 79 (by omega) (by omega);rw[e79]at this;exact this
 rw[if_neg h0];have:=hout (Vda t f 78) 79 h0;rw[e79]at this;exact this
def Qya:Nat->Str->Nat->List Str
 | 0,t,_=>[t]
 | n+1,t,f=>if 78 < t.length then (if cutP t f=0 then [t] else t.take (cutP t f)::Qya n (t.drop (cutP t f)) 1) else [t]
theorem zfb:∀(n m:Nat) (t:Str) (f:Nat),t.length<=n->t.length<=m->Qya n t f=Qya m t f:=by
 intro n;induction n with
 | zero=>
  intro m t f h1 h2;cases m with
  | zero=>rfl
  | succ m=>unfold Qya;rw[if_neg (by omega)]
 | succ n ih=>
  intro m t f h1 h2;cases m with
  | zero=>unfold Qya;rw[if_neg (by omega)]
  | succ m=>
   unfold Qya;split
   .split
    .rfl
    rename_i hc;have:=Koa hc;rw[ih m _ 1 (by simp;omega) (by simp;omega)]
   rfl
def yVa(t:Str)(f:Nat):List Str:=Qya t.length t f
theorem VGa{t:Str}{f:Nat}(h:78 < t.length)(hc:cutP t f≠0):yVa t f=t.take (cutP t f)::yVa (t.drop (cutP t f)) 1:=by
 unfold yVa;obtain ⟨n,hn⟩:∃n,t.length=n+1:=⟨t.length - 1,by omega⟩;have hp:=Koa hc;rw[hn,Qya,if_pos h,if_neg hc];rw[zfb n (t.drop (cutP t f)).length _ 1 (by simp;omega) (Nat.le_refl _)]
theorem vNa{t:Str}{f:Nat}(h:¬78 < t.length∨cutP t f=0):yVa t f=[t]:=by
 unfold yVa;cases hn:t.length with
 | zero=>rfl
 | succ n=>
  rw[Qya];rcases h with h | h
  .rw[if_neg h]
  split
  .rfl
  rfl
theorem VHa:∀(n:Nat) (t:Str) (f:Nat),t.length<=n->(yVa t f).flatten=t/\(yVa t f).length<=t.length+1:=by
 intro n;induction n with
 | zero=>intro t f h;rw[vNa (.inl (by omega))];simp
 | succ n ih=>
  intro t f h;by_cases h78:78 < t.length
  .by_cases hc:cutP t f=0
   .rw[vNa (.inr hc)];simp
   have hp:=Koa hc;rw[VGa h78 hc];obtain ⟨h1,h2⟩:=ih (t.drop (cutP t f)) 1 (by simp;omega);rw[List.flatten_cons,h1];refine ⟨by simp,?_⟩;simp only[List.length_cons,List.length_drop]at h2 ⊢;omega
  rw[vNa (.inl h78)];simp
theorem Y9a{body:Str × Int × List Str->Option (Step (Str × Int × List Str) (Str × List Str))}(enc:Nat->Int)(g:Nat)
 (h:∀(t:Str) (f:Nat) (out:List Str),t.length<=4194304->out.length<=4194305->f<=4194304->body (t,enc f,out)=some (if 78 < t.length then (if cutP t (max f 1)=0 then .out (t,out) else .cont (t.drop (cutP t (max f 1)),enc g,out++ [t.take (cutP t (max f 1))])) else .out (t,out))) (h0:max g 1=1):
 ∀(n:Nat) (t:Str) (f:Nat) (out:List Str),t.length<=n->t.length<=4194304->out.length+t.length<=4194305->f<=4194304->∃last init,iter body (t,enc f,out)=some (last,init)/\init++ [last]=out++yVa t (max f 1):=by
 intro n;induction n with
 | zero=>
  intro t f out h1 h2 h3 h4;have hb:=h t f out h2 (by omega) h4;rw[if_neg (by omega)]at hb;exact ⟨t,out,zAa hb,by rw[vNa (.inl (by omega))]⟩
 | succ n ih=>
  intro t f out h1 h2 h3 h4;have hb:=h t f out h2 (by omega) h4;by_cases h78:78 < t.length
  .rw[if_pos h78]at hb;by_cases hc:cutP t (max f 1)=0
   .rw[if_pos hc]at hb;exact ⟨t,out,zAa hb,by rw[vNa (.inr hc)]⟩
   rw[if_neg hc]at hb;have hp:=Koa hc;obtain ⟨last,init,q1,q2⟩:=ih (t.drop (cutP t (max f 1))) g (out++ [t.take (cutP t (max f 1))]) (by simp;omega) (by simp;omega) (by simp;omega) (by omega);refine ⟨last,init,(zOa hb).trans q1,?_⟩;rw[q2,h0,VGa h78 hc];simp
  rw[if_neg h78]at hb;exact ⟨t,out,zAa hb,by rw[vNa (.inl h78)]⟩
def txt(n v:Str):Str:=n++ [58,32]++v
def flP(n v:Str):List Str:=yVa (txt n v) (n.length+2)
theorem yRb(t:Str)(f:Nat)(ht:t.length<=4194304)(hf:f<=4194304):∃last init,iter wWa (t,(f:Int),([]:List Str))=some (last,init)/\init++ [last]=yVa t (max f 1):=by
 have:=Y9a (body:=wWa) (fun n=>(n:Int)) 0 (fun t f out h1 h2 h3=>by
  unfold wWa;dsimp only;by_cases h78:78 < t.length
  .have hd:decide ((78:Int) < (t.length:Int))=true:=by rw[decide_eq_true_eq];omega
   rw[hd,if_pos h78,zeb t f h1 h3];simp only[cond_true,Option.bind_some];by_cases hc:cutP t (max f 1)=0
   .rw[if_pos hc,hc];rfl
   have hp:=Koa hc;have e:(((cutP t (max f 1):Nat):Int)==0)=false:=by rw[beq_eq_false_iff_ne];omega
   rw[if_neg hc,e,Zoa (by omega),jha (by omega)];simp only[cond_false,Option.bind_some];rw[kla (by simp;omega)];rfl
  have hd:decide ((78:Int) < (t.length:Int))=false:=by rw[decide_eq_false_iff_not];omega
  rw[hd,if_neg h78];rfl) (by decide) t.length t f [] (Nat.le_refl _) ht (by simp;omega) hf
 simpa using this
theorem ref_loop(t:Str)(f:Nat)(ht:t.length<=4194304)(hf:f<=4194304)(h1f:1<=f):∃last init,iter v2a (t,(f:Int),([]:List Str))=some (last,init)/\init++ [last]=yVa t f:=by
 have:=Y9a (body:=v2a) (fun n=>((max n 1:Nat):Int)) 1 (fun t f out h1 h2 h3=>by
  unfold v2a;dsimp only;by_cases h78:78 < t.length
  .have hd:decide ((78:Int) < (t.length:Int))=true:=by rw[decide_eq_true_eq];omega
   have hc0:=R_cut_eq t (max f 1) out h1 h78 (by omega) (by omega);obtain ⟨b10,hb10,hc1⟩:=Option.bind_eq_some_iff.1 hc0;rw[hd,if_pos h78,hb10];simp only[cond_true,Option.bind_some];rw[hc1];simp only[Option.bind_some];by_cases hc:cutP t (max f 1)=0
   .rw[if_pos hc,hc];rfl
   have hp:=Koa hc;have e:(((cutP t (max f 1):Nat):Int)==0)=false:=by rw[beq_eq_false_iff_ne];omega
   rw[if_neg hc,e,Zoa (by omega),jha (by omega)];simp only[cond_false,Option.bind_some];rw[kla (by simp;omega)];rfl
  have hd:decide ((78:Int) < (t.length:Int))=false:=by rw[decide_eq_false_iff_not];omega
  rw[hd,if_neg h78];rfl) (by decide) t.length t f [] (Nat.le_refl _) ht (by simp;omega) hf
 have e:max f 1=f:=by omega
 rw[e]at this;simpa using this
theorem ySb(n v:Str)(hn:n.length<=1048576)(hv:v.length<=1048576):cat n [58,32]=some (n++ [58,32])/\cat (n++ [58,32]) v=some (txt n v)/\w64 ((n.length:Int)+2)=((n.length+2:Nat):Int):=by
 refine ⟨yTa (by simp;omega),yTa (by simp;omega),?_⟩;rw[qja (by omega) (by omega)];omega
theorem WTa(n v:Str):(txt n v).length=n.length+2+v.length:=by unfold txt;simp;omega
theorem ZSa(n v:Str)(hn:n.length<=1048576)(hv:v.length<=1048576):jea n v=some (flP n v):=by
 obtain ⟨h1,h2,h3⟩:=ySb n v hn hv;have hl:=WTa n v;obtain ⟨last,init,q1,q2⟩:=ref_loop (txt n v) (n.length+2) (by omega) (by omega) (by omega);unfold jea flP;rw[h1];simp only[Option.bind_some];rw[h2];simp only[Option.bind_some];rw[h3,q1];simp only[Option.bind_some];have hj:=(VHa (txt n v).length (txt n v) (n.length+2) (Nat.le_refl _)).2;rw[<-q2]at hj;simp at hj;rw[kla (by simp;omega),q2];rfl
def WUa(i:Nat)(l:Str):Option Int:=if 998 < l.length then some (i:Int) else none
def qAb(n v:Str):List Str × zra:=
 if !fnP n then ([],⟨10, -1⟩) else if 4000 < v.length then ([],⟨1, -1⟩) else if !valP v then ([],⟨11, -1⟩) else match zya WUa 0 (flP n v) with | some i=>([],⟨1,i⟩) | none=>(flP n v,⟨0,0⟩)
theorem vkb(n v:Str):(flP n v).length<=n.length+v.length+3:=by
 have:=(VHa (txt n v).length (txt n v) (n.length+2) (Nat.le_refl _)).2;have hl:=WTa n v;unfold flP;omega
theorem dec998(l:Str):decide ((998:Int) < (l.length:Int))=decide (998 < l.length):=by generalize l.length=n;rw[Bool.eq_iff_iff];simp;omega
theorem jla(n v:Str)(hn:n.length<=1048576)(hv:v.length<=1048576):yHa n v=some (qAb n v):=by
 obtain ⟨h1,h2,h3⟩:=ySb n v hn hv;have hl:=WTa n v;obtain ⟨last,init,q1,q2⟩:=yRb (txt n v) (n.length+2) (by omega) (by omega);rw[show max (n.length+2) 1=n.length+2 by omega]at q2;unfold yHa qAb;rw[z9b n hn,zcb v hv];simp only[Option.bind_some,zWa,kAa];cases fnP n with
 | false=>rfl
 | true=>
  simp only[Bool.not_true,cond_false,Bool.false_eq_true,if_false];by_cases h4:4000 < v.length
  .have hd:decide ((4000:Int) < (v.length:Int))=true:=by rw[decide_eq_true_eq];omega
   rw[hd,if_pos h4];rfl
  have hd:decide ((4000:Int) < (v.length:Int))=false:=by rw[decide_eq_false_iff_not];omega
  rw[hd,if_neg h4];simp only[cond_false];cases valP v with
  | false=>rfl
  | true=>
   simp only[Bool.not_true,cond_false,Bool.false_eq_true,if_false];rw[h1];simp only[Option.bind_some];rw[h2];simp only[Option.bind_some];rw[h3,q1];simp only[Option.bind_some];have hj:=vkb n v;have hfl:flP n v=init++ [last]:=q2.symm;have hj2:=hj;rw[hfl]at hj2;simp at hj2;rw[kla (by simp;omega),<-hfl];simp only[Option.bind_some];rw[zTa (flP n v) (fun i l=>(WUa i l).map fun k=>(([]:List Str),(⟨1,k⟩:zra))) (.inl ()) .inr]
   .simp only[Option.bind_some];have hm:∀(l:List Str) (i:Nat),zya (fun i l=>(WUa i l).map fun k=>(([]:List Str),(⟨1,k⟩:zra))) i l=(zya WUa i l).map fun k=>(([]:List Str),(⟨1,k⟩:zra)):=by
     intro l;induction l with
     | nil=>intro i;rfl
     | cons x l ih=>intro i;unfold zya;rw[ih];cases WUa i x <;> rfl
    rw[hm];cases zya WUa 0 (flP n v) <;> rfl
   .unfold jda;rw[zMa];rfl
   intro i l hli;have hi:=zLa hli;unfold jda WUa;rw[koa hli,zCa hli];simp only[cond_true,Option.bind_some,dec998,zWa,sc i (by omega)];by_cases h9:998 < l.length
   .simp[h9]
   simp[h9]
def Zga(f:zia):Int:=(qAb f.Name f.Value).2.Code
def zgb(l:List Str):Bool:=l.any fun s=>decide (998 < s.length)
theorem Jaa(l:List Str):∀n,(zya WUa n l).isSome=zgb l:=by
 induction l with
 | nil=>intro n;rfl
 | cons x l ih=>
  intro n;unfold zya zgb WUa;by_cases h:998 < x.length
  .simp[h]
  simp only[h,if_false,List.any_cons,decide_false,Bool.false_or];exact ih (n+1)
def yTb(n v:Str):Int:=if !fnP n then 10 else if 4000 < v.length then 1 else if !valP v then 11 else if zgb (flP n v) then 1 else 0
theorem zhb(f:zia):Zga f=yTb f.Name f.Value:=by
 unfold Zga qAb yTb;rw[<-Jaa (flP f.Name f.Value) 0];split
 .rfl
 split
 .rfl
 split
 .rfl
 cases zya WUa 0 (flP f.Name f.Value) <;> rfl
theorem R_In_60(s:Str):R_In (s.length:Int) 1 60=some (s !=([]:Str) && decide (s.length<=60)):=by
 rw[vMa];cases s with
 | nil=>rfl
 | cons c s=>
  have h:decide ((1:Int)<=((c::s).length:Int))=true:=by rw[decide_eq_true_eq];simp;omega
  rw[h,dec60];rfl
theorem elim_int(c:Int)(o:Option Unit)(f:Unit->Option Int):Sum.elim f (fun b=>some b) (o.elim (Sum.inl ()) (fun _=>Sum.inr c):Unit ⊕ Int)=bif o.isSome then some c else f ():=by cases o <;> rfl
theorem KLa(f:zia)(hn:f.Name.length<=1048576)(hv:f.Value.length<=1048576):j9a f=some (Zga f):=by
 rw[zhb];unfold j9a;have hl1:iter (wKa f) 0=some ((zya (fun _ c=>if !fnC c then some () else none) 0 f.Name).elim (.inl ()) fun _=>.inr 10):=by
  refine zTa f.Name _ (Sum.inl ()) (fun _=>Sum.inr 10) ?_ ?_
  .unfold wKa;rw[zMa];rfl
  intro i c hc;have hi:=zLa hc;unfold wKa;rw[koa hc,zCa hc];simp only[cond_true,Option.bind_some,vMa,qJa c 58 (by decide),jia 33 c (by decide),jja 126 c (by decide),sc i (by omega)];unfold fnC bne;cases decide ((33:UInt8)<=c) <;> cases decide (c<=126) <;> cases c==58 <;> rfl
 have hl2:iter (wLa f) 0=some ((zya (fun _ c=>if endC c then some () else none) 0 f.Value).elim (.inl ()) fun _=>.inr 11):=by
  refine zTa f.Value _ (Sum.inl ()) (fun _=>Sum.inr 11) ?_ ?_
  .unfold wLa;rw[zMa];rfl
  intro i c hc;have hi:=zLa hc;unfold wLa;rw[koa hc,zCa hc];simp only[cond_true,Option.bind_some,qJa c 0 (by decide),qJa c 10 (by decide),qJa c 13 (by decide),sc i (by omega)];unfold endC;cases c==0 <;> cases c==10 <;> cases c==13 <;> rfl
 have hl3:∀l:List Str,l.length<=4194304->iter (wMa l) 0=some ((zya (fun _ c=>if decide (998 < c.length) then some () else none) 0 l).elim (.inl ()) fun _=>.inr 1):=by
  intro l hl;refine zTa l _ (Sum.inl ()) (fun _=>Sum.inr 1) ?_ ?_
  .unfold wMa;rw[zMa];rfl
  intro i c hc;have hi:=zLa hc;unfold wMa;rw[koa hc,zCa hc];simp only[cond_true,Option.bind_some,dec998,sc i (by omega)];cases decide (998 < c.length) <;> rfl
 have hfl:=vkb f.Name f.Value;rw[hl1];simp only[Option.bind_some,elim_int,Zea,zab,R_In_60,hl2,ZSa _ _ hn hv,hl3 _ (show (flP f.Name f.Value).length<=4194304 by omega)];have h4:decide ((4000:Int) < (f.Value.length:Int))=decide (4000 < f.Value.length):=by generalize f.Value.length=n;rw[Bool.eq_iff_iff];simp;omega
 have he:(bif decide ((0:Int) < (f.Value.length:Int)) then (idx f.Value 0).bind fun v38=>(vqa v38).bind fun v40=>(bif v40 then some true else (idx f.Value ((w64 ((f.Value.length:Int) - 1)))).bind fun v43=>(vqa v43).bind fun v45=>some v45) else some false)=some (yOb f.Value):=by
  by_cases hn0:f.Value=[]
  .rw[hn0];rfl
  obtain ⟨a,b,h1,h2,h3,h4⟩:=vjb f.Value hn0 hv;have hp:=List.length_pos_iff.2 hn0;have hd:decide ((0:Int) < (f.Value.length:Int))=true:=by rw[decide_eq_true_eq];omega
  unfold yOb;rw[h1,h2,h3,h4,hd];simp only[Option.bind_some,yxa,cond_true];cases zNa a <;> rfl
 rw[he,h4];simp only[Option.bind_some];unfold yTb fnP valP zgb;cases f.Name.all fnC <;> cases (f.Name !=([]:Str)) <;> cases decide (f.Name.length<=60) <;> (try rfl)
 simp only[Bool.and_true,Bool.not_true,Bool.false_eq_true,if_false,cond_false];by_cases h4000:4000 < f.Value.length
 .simp[h4000]
 simp only[h4000,decide_false,cond_false,if_false];cases f.Value.any endC <;> cases yOb f.Value <;> (try rfl)
 simp only[Bool.not_false,Bool.and_true,Bool.not_true,Bool.false_eq_true,if_false,cond_false];cases (flP f.Name f.Value).any fun s=>decide (998 < s.length) <;> rfl
def smallF(l:List zia):Prop:=l.length<=1048576/\∀f∈l,f.Name.length<=1048576/\f.Value.length<=1048576
def ZTa(i:Nat)(f:zia):Option zra:=if Zga f !=0 then some ⟨Zga f,i⟩ else none
def Zza(l:List zia):zra:=if 60 < l.length then ⟨2, -1⟩ else (zya ZTa 0 l).getD ⟨0,0⟩
theorem dec60f(l:List zia):decide ((60:Int) < (l.length:Int))=decide (60 < l.length):=by generalize l.length=n;rw[Bool.eq_iff_iff];simp;omega
theorem Qza(l:List zia)(h:smallF l):q3a l=some (Zza l):=by
 obtain ⟨h1,h2⟩:=h;unfold q3a Zza;rw[zTa l ZTa (.inl ()) .inr]
 .simp only[Option.bind_some,zWa,kAa,Y6a,dec60f];by_cases h6:60 < l.length <;> simp[h6]
 .unfold qSa;rw[zMa];rfl
 intro i f hf;have hi:=zLa hf;obtain ⟨hn,hv⟩:=h2 f (List.mem_of_getElem? hf);unfold qSa ZTa;rw[koa hf,zCa hf];simp only[cond_true,Option.bind_some,jla _ _ hn hv,zQa,zWa,sc i (by omega)];show (bif Zga f !=0 then _ else _)=_;cases Zga f !=0 <;> rfl
theorem jSa(l:List zia)(h:(Zza l).Code=0):¬60 < l.length/\zya ZTa 0 l=none/\∀f∈l,Zga f=0:=by
 unfold Zza at h;by_cases h6:60 < l.length
 .rw[if_pos h6]at h;simp at h
 rw[if_neg h6]at h;cases hq:zya ZTa 0 l with
 | some y=>
  rw[hq]at h;obtain ⟨i,f,h1,h2⟩:=K4a hq;unfold ZTa at h2;exfalso;by_cases hc:Zga f=0
  .simp[hc]at h2
  have:(Zga f !=0)=true:=by simpa using hc
  rw[this]at h2;simp at h2;subst h2;exact hc h
 | none=>
  refine ⟨h6,rfl,fun f hf=>?_⟩;obtain ⟨i,hi⟩:=List.getElem?_of_mem hf;have:=vLa.1 hq i f hi;unfold ZTa at this;simpa using this
theorem zib{f:zia}(h:Zga f=0):f.Name.length<=60/\f.Value.length<=4000/\qAb f.Name f.Value=(flP f.Name f.Value,⟨0,0⟩)/\∀l∈flP f.Name f.Value,l.length<=998:=by
 have h0:=h;rw[zhb]at h;unfold yTb at h;have h1:fnP f.Name=true:=by cases hx:fnP f.Name with
  | true=>rfl
  | false=>rw[hx]at h;simp at h
 rw[h1]at h;simp only[Bool.not_true,Bool.false_eq_true,if_false]at h;have h2:¬4000 < f.Value.length:=by intro hx;rw[if_pos hx]at h;simp at h
 rw[if_neg h2]at h;have h3:valP f.Value=true:=by cases hx:valP f.Value with
  | true=>rfl
  | false=>rw[hx]at h;simp at h
 rw[h3]at h;simp only[Bool.not_true,Bool.false_eq_true,if_false]at h;have h4:zgb (flP f.Name f.Value)=false:=by cases hx:zgb (flP f.Name f.Value) with
  | false=>rfl
  | true=>rw[hx]at h;simp at h
 refine ⟨?_,by omega,?_,?_⟩
 .unfold fnP at h1;simp only[Bool.and_eq_true,decide_eq_true_eq]at h1;exact h1.1.2
 .unfold qAb;rw[h1,h3];simp only[Bool.not_true,Bool.false_eq_true,if_false,if_neg h2];have:=Jaa (flP f.Name f.Value) 0;rw[h4]at this;cases hx:zya WUa 0 (flP f.Name f.Value) with
  | none=>rfl
  | some y=>rw[hx]at this;cases this
 intro l hl;unfold zgb at h4;rw[List.any_eq_false]at h4;have:=h4 l hl;simp at this;omega
def addL(a:List UInt8)(l:Str):List UInt8:=a++l++ [13,10]
def addF(a:List UInt8)(f:zia):List UInt8:=(flP f.Name f.Value).foldl addL a
def wba(m:zxa):List UInt8:=m.Fields.foldl addF []++ [13,10]++m.Body
theorem vlb(l:List Str)(acc:List UInt8)(hl:l.length<=5000)(h9:∀s∈l,s.length<=998)(ha:acc.length<=1000000000){body:Int × List UInt8->Option (Step (Int × List UInt8) (List UInt8))}
 (h0:∀s,body ((l.length:Int),s)=some (.out s)) (h1:∀(i:Nat) x s,l[i]? =some x->s.length<=1006000000->body ((i:Int),s)=some (.cont (((i+1:Nat):Int),addL s x))):iter body (0,acc)=some (l.foldl addL acc)/\(l.foldl addL acc).length<=acc.length+1000 * l.length:=
 yUa l (fun i s=>(i,s)) addL id (fun i s=>s.length<=acc.length+1000 * i) (body:=body) (fun s _=>h0 s) (fun i x s hx hi=>by
  have hlt:=zLa hx;have h9x:=h9 x (List.mem_of_getElem? hx);refine ⟨h1 i x s hx (by omega),?_⟩;unfold addL;simp;omega) acc (by simp)
theorem kcb(l:List zia)(hl:l.length<=60)(hc:∀f∈l,Zga f=0){body:Int × List UInt8->Option (Step (Int × List UInt8) (List UInt8))}
 (h0:∀s,body ((l.length:Int),s)=some (.out s)) (h1:∀(i:Nat) f s,l[i]? =some f->s.length<=1000000000->body ((i:Int),s)=some (.cont (((i+1:Nat):Int),addF s f))/\(addF s f).length<=s.length+5000000):iter body (0,([]:List UInt8))=some (l.foldl addF [])/\(l.foldl addF []).length<=5000000 * l.length:=
 yUa l (fun i s=>(i,s)) addF id (fun i s=>s.length<=5000000 * i) (body:=body) (fun s _=>h0 s) (fun i f s hf hi=>by
  have hlt:=zLa hf;obtain ⟨q1,q2⟩:=h1 i f s hf (by omega);exact ⟨q1,by omega⟩) [] (by simp)
theorem Zqa(m:zxa)(hb:m.Body.length<=1048576)(h60:m.Fields.length<=60)(hc:∀f∈m.Fields,Zga f=0):vha m=some (wba m):=by
 unfold vha wba;obtain ⟨h1,h2⟩:=kcb m.Fields h60 hc (body:=qGa m) (fun s=>by unfold qGa;rw[zMa];rfl) (fun i f s hf hs=>by
  have hi:=zLa hf;obtain ⟨c1,c2,c3,c4⟩:=zib (hc f (List.mem_of_getElem? hf));have hfl:=vkb f.Name f.Value;obtain ⟨q1,q2⟩:=vlb (flP f.Name f.Value) s (by omega) c4 hs (body:=qFa (qAb f.Name f.Value)) (fun s=>by unfold qFa;rw[c3,zMa];rfl) (fun k x s hx hs=>by
   have hk:=zLa hx;have:=c4 x (List.mem_of_getElem? hx);unfold qFa;rw[c3,koa hx,zCa hx];simp only[cond_true,Option.bind_some,sc k (by omega)];rw[kla (by omega)];simp only[Option.bind_some];rw[kla (by simp;omega)];rfl)
  unfold addF;refine ⟨?_,by omega⟩;unfold qGa;rw[koa hf,zCa hf];simp only[cond_true,Option.bind_some,jla f.Name f.Value (by omega) (by omega),q1,sc i (by omega)])
 rw[h1];simp only[Option.bind_some];rw[kla (by simp;omega)];simp only[Option.bind_some];rw[kla (by simp;omega)];rfl
theorem Vea(m:zxa)(hb:m.Body.length<=1048576)(h60:m.Fields.length<=60)(hc:∀f∈m.Fields,Zga f=0):jua m=some (wba m):=by
 unfold jua wba;obtain ⟨h1,h2⟩:=kcb m.Fields h60 hc (body:=vka m) (fun s=>by unfold vka;rw[zMa];rfl) (fun i f s hf hs=>by
  have hi:=zLa hf;obtain ⟨c1,c2,c3,c4⟩:=zib (hc f (List.mem_of_getElem? hf));have hfl:=vkb f.Name f.Value;obtain ⟨q1,q2⟩:=vlb (flP f.Name f.Value) s (by omega) c4 hs (body:=vja (flP f.Name f.Value)) (fun s=>by unfold vja;rw[zMa];rfl) (fun k x s hx hs=>by
   have hk:=zLa hx;have:=c4 x (List.mem_of_getElem? hx);unfold vja;rw[koa hx,zCa hx];simp only[cond_true,Option.bind_some,sc k (by omega)];rw[kla (by omega)];simp only[Option.bind_some];rw[kla (by simp;omega)];rfl)
  unfold addF;refine ⟨?_,by omega⟩;unfold vka;rw[koa hf,zCa hf];simp only[cond_true,Option.bind_some,ZSa f.Name f.Value (by omega) (by omega),q1,sc i (by omega)])
 rw[h1];simp only[Option.bind_some];rw[kla (by simp;omega)];simp only[Option.bind_some];rw[kla (by simp;omega)];rfl
def YEa:Nat->List UInt8->Option Bool
 | _,[]=>none
 | c,[x]=>if x==13 || x==10 then some true else if 998 < c+1 then some false else none
 | c,x::y::r=>if x==13 && y==10 then YEa 0 r else if x==13 || x==10 then some true else if 998 < c+1 then some false else YEa (c+1) (y::r)
def QAa{O:Type}(e:Bool->O)(c i:Nat)(x:UInt8)(r:List UInt8):Step (Int × Int) (Unit ⊕ O):=
 if x==13 && r.head? ==some 10 then .cont (0,((i+2:Nat):Int)) else if x==13 || x==10 then .out (.inr (e true)) else if 998 < c+1 then .out (.inr (e false)) else .cont (((c+1:Nat):Int),((i+1:Nat):Int))
theorem kdb{O:Type}(e:Bool->O)(l:List UInt8){body:Int × Int->Option (Step (Int × Int) (Unit ⊕ O))}
 (h0:∀c,body (c,(l.length:Int))=some (.out (.inl ())))
 (hs:∀(c:Nat) (p:List UInt8) x r,l=p++x::r->c<=998->body ((c:Int),(p.length:Int))=some (QAa e c p.length x r)):
 ∀(n:Nat) (r p:List UInt8) (c:Nat),r.length<=n->l=p++r->c<=998->iter body ((c:Int),(p.length:Int))=some ((YEa c r).elim (.inl ()) fun b=>.inr (e b)):=by
 intro n;induction n with
 | zero=>
  intro r p c hr hl hc;obtain rfl:r=[]:=List.length_eq_zero_iff.1 (by omega);have:p=l:=by simp[hl]
  subst this;exact zAa (h0 _)
 | succ n ih=>
  intro r p c hr hl hc
  match r,hr,hl with
  | [],_,hl=>
   have:p=l:=by simp[hl]
   subst this;exact zAa (h0 _)
  | [x],hr,hl=>
   have hb:=hs c p x [] hl hc;unfold QAa at hb;have e1:(x==13 && ([]:List UInt8).head? ==some 10)=false:=by simp
   rw[e1]at hb;simp only[Bool.false_eq_true,if_false]at hb;unfold YEa;cases hx:(x==13 || x==10) with
   | true=>rw[hx]at hb;exact zAa hb
   | false=>
    rw[hx]at hb;simp only[Bool.false_eq_true,if_false]at hb ⊢;by_cases h9:998 < c+1
    .rw[if_pos h9]at hb ⊢;exact zAa hb
    rw[if_neg h9]at hb ⊢;rw[zOa hb];have:=ih [] (p++ [x]) (c+1) (by simp) (by simp[hl]) (by omega);rw[List.length_append]at this;exact this
  | x::y::r,hr,hl=>
   have hb:=hs c p x (y::r) hl hc;unfold QAa at hb;have e1:((y::r).head? ==some (10:UInt8))=(y==10):=by simp
   rw[e1]at hb;unfold YEa;cases hxy:(x==13 && y==10) with
   | true=>
    rw[hxy]at hb;simp only[if_true]at hb ⊢;rw[zOa hb];have:=ih r (p++ [x,y]) 0 (by simp at hr;omega) (by simp[hl]) (by omega);rw[List.length_append]at this;exact this
   | false=>
    rw[hxy]at hb;simp only[Bool.false_eq_true,if_false]at hb ⊢;cases hx:(x==13 || x==10) with
    | true=>rw[hx]at hb;exact zAa hb
    | false=>
     rw[hx]at hb;simp only[Bool.false_eq_true,if_false]at hb ⊢;by_cases h9:998 < c+1
     .rw[if_pos h9]at hb ⊢;exact zAa hb
     rw[if_neg h9]at hb ⊢;rw[zOa hb];have:=ih (y::r) (p++ [x]) (c+1) (by simp at hr ⊢;omega) (by simp[hl]) (by omega);rw[List.length_append]at this;exact this
theorem yUb{l p r:List UInt8}{x:UInt8}(h:l=p++x::r)(hl:l.length<=1048576):(bif decide (((p.length+1:Nat):Int) < (l.length:Int)) then (idx l ((p.length+1:Nat):Int)).bind fun v13=>some (((v13.toNat:Int)==10)) else some false)=some (r.head? ==some 10):=by
 subst h;simp at hl;cases r with
 | nil=>
  have:decide (((p.length+1:Nat):Int) < ((p++ [x]).length:Int))=false:=by simp
  rw[this];rfl
 | cons y r=>
  have:decide (((p.length+1:Nat):Int) < ((p++x::y::r).length:Int))=true:=by simp;omega
  rw[this,wCa];have:(p++x::y::r)[p.length+1]? =some y:=by simp[List.getElem?_append_right]
  rw[this];simp only[cond_true,Option.bind_some,qJa y 10 (by decide)];simp
theorem zjb(l:List UInt8)(hl:l.length<=1048576):jOa l=some ((YEa 0 l).elim 0 fun b=>bif b then 11 else 1):=by
 unfold jOa;have:=kdb (fun b:Bool=>bif b then (11:Int) else 1) l (body:=via l) (fun c=>by unfold via;rw[zMa];rfl) (fun c p x r h hc=>by
  have hx:l[p.length]? =some x:=by simp[h]
  have hi:=zLa hx;unfold via v1a QAa;dsimp only;rw[koa hx,zCa hx];simp only[cond_true,Option.bind_some,qJa x 13 (by decide),qJa x 10 (by decide),sc p.length (by omega),sc (p.length+1) (by omega),sc c (by omega)];rw[yUb h hl];have h9:decide ((998:Int) < ((c+1:Nat):Int))=decide (998 < c+1):=by rw[Bool.eq_iff_iff];simp;omega
  rw[h9];by_cases h98:998 < c+1 <;> simp only[h98,decide_true,decide_false,if_true,if_false] <;> cases x==13 <;> cases x==10 <;> cases r.head? ==some 10 <;> rfl) l.length l [] 0 (Nat.le_refl _) rfl (by omega)
 have h2:iter (via l) (0,0)=_:=this;rw[h2];cases YEa 0 l with
 | none=>rfl
 | some b=>cases b <;> rfl
def bodyF(l:List UInt8):zra:=(YEa 0 l).elim ⟨0,0⟩ fun b=>bif b then ⟨11, -5⟩ else ⟨1, -6⟩
theorem WVa(l:List UInt8)(hl:l.length<=1048576):wXa l=some (bodyF l):=by
 unfold wXa bodyF;rw[zjb l hl];cases YEa 0 l with
 | none=>rfl
 | some b=>cases b <;> rfl
def msgF(m:zxa):zra:=if (Zza m.Fields).Code !=0 then Zza m.Fields else if 12000 < (wba m).length then ⟨1, -4⟩ else bodyF m.Body
def Jba(m:zxa):Prop:=smallF m.Fields/\m.Body.length<=1048576
theorem vOa(m:zxa)(h:Jba m):kGa m=some (msgF m):=by
 obtain ⟨h1,h2⟩:=h;unfold kGa msgF;rw[Qza _ h1];simp only[Option.bind_some,zQa,zWa,WVa _ h2];cases hc:(Zza m.Fields).Code !=0 with
 | true=>rfl
 | false=>
  obtain ⟨q1,q2,q3⟩:=jSa m.Fields (by simpa using hc);rw[Zqa m h2 (by omega) q3];simp only[Option.bind_some,cond_false,Bool.false_eq_true,if_false];have:decide ((12000:Int) < ((wba m).length:Int))=decide (12000 < (wba m).length):=by generalize (wba m).length=n;rw[Bool.eq_iff_iff];simp;omega
  rw[this];by_cases hb:12000 < (wba m).length <;> simp[hb]
theorem Vfa(m:zxa)(h:Jba m):jva m=some (msgF m):=by
 obtain ⟨⟨h1,h3⟩,h2⟩:=h;unfold jva msgF;rw[zTa m.Fields ZTa (.inl ()) .inr]
 .have hbl:iter (qoa m) (0,0)=_:=kdb (fun b:Bool=>bif b then (⟨11, -5⟩:zra) else ⟨1, -6⟩) m.Body (body:=qoa m) (fun c=>by unfold qoa;rw[zMa];rfl) (fun c p x r h hc=>by
   have hx:m.Body[p.length]? =some x:=by simp[h]
   have hi:=zLa hx;unfold qoa wxa QAa;dsimp only;rw[koa hx,zCa hx];simp only[cond_true,Option.bind_some,qJa x 13 (by decide),qJa x 10 (by decide),sc p.length (by omega),sc (p.length+1) (by omega),sc c (by omega),K5a];rw[yUb h h2];have h9:decide ((998:Int) < ((c+1:Nat):Int))=decide (998 < c+1):=by rw[Bool.eq_iff_iff];simp;omega
   rw[h9];by_cases h98:998 < c+1 <;> simp only[h98,decide_true,decide_false,if_true,if_false] <;> cases x==13 <;> cases x==10 <;> cases r.head? ==some 10 <;> rfl) m.Body.length m.Body [] 0 (Nat.le_refl _) rfl (by omega)
  rw[hbl,dec60f];simp only[Option.bind_some,K5a];by_cases h6:60 < m.Fields.length
  .have:Zza m.Fields=⟨2, -1⟩:=by unfold Zza;rw[if_pos h6]
   rw[this];simp[h6]
  simp only[h6,decide_false,cond_false];have hh:Zza m.Fields=(zya ZTa 0 m.Fields).getD ⟨0,0⟩:=by unfold Zza;rw[if_neg h6]
  cases hq:zya ZTa 0 m.Fields with
  | some y=>
   rw[hq]at hh;have hc:((Zza m.Fields).Code !=0)=true:=by
    cases hc:(Zza m.Fields).Code !=0 with
    | true=>rfl
    | false=>
     obtain ⟨_,q2,_⟩:=jSa m.Fields (by simpa using hc);rw[hq]at q2;cases q2
   rw[hc,hh];rfl
  | none=>
   rw[hq]at hh;have hz:Zza m.Fields=⟨0,0⟩:=hh;obtain ⟨q1,q2,q3⟩:=jSa m.Fields (by rw[hz]);rw[Vea m h2 (by omega) q3,hz];simp only[Option.bind_some,Option.elim_none,Sum.elim_inl];have hbb:m.Body.length<=(wba m).length:=by unfold wba;simp;omega
   have e2:(bif decide ((12000:Int) < (m.Body.length:Int)) then some true else some (decide ((12000:Int) < ((wba m).length:Int))))=some (decide (12000 < (wba m).length)):=by
    generalize (wba m).length=n at *;by_cases hx:12000 < m.Body.length
    .have e3:decide ((12000:Int) < (m.Body.length:Int))=true:=by rw[decide_eq_true_eq];omega
     have e4:decide (12000 < n)=true:=by rw[decide_eq_true_eq];omega
     rw[e3,e4];rfl
    have e3:decide ((12000:Int) < (m.Body.length:Int))=false:=by rw[decide_eq_false_iff_not];omega
    rw[e3];simp only[cond_false,Option.some.injEq];rw[Bool.eq_iff_iff];simp;omega
   rw[e2];simp only[Option.bind_some];unfold bodyF;by_cases hb:12000 < (wba m).length
   .simp[hb]
   simp only[hb,decide_false,cond_false,if_false];cases YEa 0 m.Body <;> rfl
 .unfold wwa;rw[zMa];rfl
 intro i f hf;have hi:=zLa hf;obtain ⟨hn,hv⟩:=h3 f (List.mem_of_getElem? hf);unfold wwa ZTa;rw[koa hf,zCa hf];simp only[cond_true,Option.bind_some,KLa _ hn hv,K5a,sc i (by omega)];cases Zga f !=0 <;> rfl
def add1(o:List Str)(x:Str):List Str:=if o.contains x then o else o++ [x]
def WWa(o xs:List Str):List Str:=xs.foldl add1 o
theorem add1_mem(o:List Str)(x y:Str):y∈add1 o x↔y∈o∨y=x:=by
 unfold add1;split
 .rename_i h;simp at h;constructor
  .exact .inl
  rintro (h1 | rfl)
  .exact h1
  exact h
 simp
theorem qBb(o:List Str)(x:Str):o <+:add1 o x:=by
 unfold add1;split
 .exact List.prefix_refl _
 exact List.prefix_append _ _
theorem whb{o:List Str}(h:o.Nodup)(x:Str):(add1 o x).Nodup:=by
 unfold add1;split
 .exact h
 rename_i hx;simp at hx;rw[List.nodup_append];exact ⟨h,by simp,fun a ha b hb hab=>by simp at hb;subst hb;subst hab;exact hx ha⟩
theorem Jca(xs:List Str):∀(o:List Str) (y:Str),y∈WWa o xs↔y∈o∨y∈xs:=by
 induction xs with
 | nil=>intro o y;simp[WWa]
 | cons x xs ih=>intro o y;show y∈WWa (add1 o x) xs↔_;rw[ih,add1_mem];simp[or_assoc]
theorem zkb(xs:List Str):∀o:List Str,o <+:WWa o xs:=by
 induction xs with
 | nil=>intro o;exact List.prefix_refl _
 | cons x xs ih=>intro o;exact (qBb o x).trans (ih _)
theorem VIa(xs:List Str):∀{o:List Str},o.Nodup->(WWa o xs).Nodup:=by
 induction xs with
 | nil=>intro o h;exact h
 | cons x xs ih=>intro o h;exact ih (whb h x)
theorem nodup_le{l m:List Str}(hl:l.Nodup)(h:∀x∈l,x∈m):l.length<=m.length:=by
 induction l generalizing m with
 | nil=>simp
 | cons x l ih=>
  have hx:x∈m:=h x (by simp);obtain ⟨hxl,hl'⟩:=List.nodup_cons.1 hl;have:=ih (m:=m.erase x) hl' (fun y hy=>by
   have hne:y≠x:=by rintro rfl;exact hxl hy
   exact (List.mem_erase_of_ne hne).2 (h y (by simp[hy])))
  rw[List.length_erase_of_mem hx]at this;have:0 < m.length:=List.length_pos_of_mem hx;simp;omega
def tgtO(l:List yEa)(s:Str):Option (List Str):=(l.find? (fun a=>a.Address==s)).map (·.To)
def tgt(l:List yEa)(s:Str):List Str:=(tgtO l s).getD []
def univ(l:List yEa)(from_:List Str):List Str:=from_++l.flatMap (·.To)
theorem tgt_sub(l:List yEa)(s x:Str)(h:x∈tgt l s):∃a∈l,a.Address=s/\x∈a.To:=by
 unfold tgt tgtO at h;cases hf:l.find? (fun a=>a.Address==s) with
 | none=>rw[hf]at h;simp at h
 | some a=>
  rw[hf]at h;have:=List.find?_some hf;exact ⟨a,List.mem_of_find?_eq_some hf,by simpa using this,by simpa using h⟩
structure Inv (l:List yEa) (U:List Str) (k:Nat) (out:List Str):Prop where
 nd:out.Nodup
 sub:∀x∈out,x∈U
 le:k<=out.length
theorem Inv.len{l:List yEa}{U:List Str}{k:Nat}{out:List Str}(h:Inv l U k out):out.length<=U.length:=nodup_le h.nd h.sub
theorem Inv.step{l:List yEa}{from_:List Str}{k:Nat}{out:List Str}(h:Inv l (univ l from_) k out){s:Str}(hs:out[k]? =some s):Inv l (univ l from_) (k+1) (WWa out (tgt l s)):=by
 refine ⟨VIa _ h.nd,fun x hx=>?_,?_⟩
 .rcases (Jca _ _ _).1 hx with h1 | h1
  .exact h.sub x h1
  obtain ⟨a,ha,_,hxa⟩:=tgt_sub l s x h1;exact List.mem_append.2 (.inr (List.mem_flatMap.2 ⟨a,ha,hxa⟩))
 have:=(zkb (tgt l s) out).length_le;have:=zLa hs;omega
theorem Inv.start(l:List yEa)(from_:List Str):Inv l (univ l from_) 0 (WWa [] from_):=
 ⟨VIa _ List.nodup_nil,fun x hx=>by
  rcases (Jca _ _ _).1 hx with h1 | h1
  .simp at h1
  exact List.mem_append.2 (.inl h1),Nat.zero_le _⟩
instance:DecidableEq zca:=fun a b=>decidable_of_iff (a.Address=b.Address/\a.Notify=b.Notify) (by cases a;cases b;simp)
instance:DecidableEq zra:=fun a b=>decidable_of_iff (a.Code=b.Code/\a.Index=b.Index) (by cases a;cases b;simp)
instance:DecidableEq kaa:=fun a b=>decidable_of_iff (a.From=b.From/\a.To=b.To/\a.Id=b.Id) (by cases a;cases b;simp)
def QBa(a b:Int)(s:Int × Int):Int × Int:=(bif (iRem (iQuo a s.2) 2==1 || iRem (iQuo b s.2) 2==1) then w64 (s.1+s.2) else s.1,w64 (2 * s.2))
def qCb(a b:Int):Int:=(QBa a b (QBa a b (QBa a b (0,1)))).1
theorem WXa(a b n k:Int)(hk:k<=4)(h0:(k==0)=false):yGa a b (n,k)=some (.cont (QBa a b (n,k))):=by
 unfold yGa QBa;have h1:decide (k<=4)=true:=by simp;exact hk
 have h2:nz k=some true:=by unfold nz;rw[h0];rfl
 dsimp only;rw[h1,h2];simp only[cond_true,Option.bind_some];cases iRem (iQuo a k) 2==1 <;> cases iRem (iQuo b k) 2==1 <;> rfl
theorem qDb(a b:Int):J3a a b=some (qCb a b):=by
 unfold J3a;have e1:(QBa a b (0,1)).2=2:=show w64 (2 * 1)=2 by decide
 have e2:∀n,(QBa a b (n,2)).2=4:=fun n=>show w64 (2 * 2)=4 by decide
 have e3:∀n,(QBa a b (n,4)).2=8:=fun n=>show w64 (2 * 4)=8 by decide
 rw[zOa (WXa a b 0 1 (by decide) (by decide))];have f1:QBa a b (0,1)=((QBa a b (0,1)).1,2):=Prod.ext rfl e1;rw[f1,zOa (WXa a b _ 2 (by decide) (by decide))];have f2:∀n,QBa a b (n,2)=((QBa a b (n,2)).1,4):=fun n=>Prod.ext rfl (e2 n)
 rw[f2,zOa (WXa a b _ 4 (by decide) (by decide))];have f3:∀n,QBa a b (n,4)=((QBa a b (n,4)).1,8):=fun n=>Prod.ext rfl (e3 n)
 rw[f3];have hlast:∀n:Int,yGa a b (n,8)=some (.out n):=by intro n;unfold yGa;rfl
 rw[zAa (hlast _)];unfold qCb;rw[f1,f2];rfl
theorem wib:∀a b:Fin 8,qCb (a.val:Int) (b.val:Int)=iOr (a.val:Int) (b.val:Int)/\k4a (qCb (a.val:Int) (b.val:Int))=true:=by decide+kernel
theorem vmb{n:Int}(h:k4a n=true):∃a:Fin 8,n=(a.val:Int):=by
 unfold k4a at h;simp at h;exact ⟨⟨n.toNat,by omega⟩,by simp;omega⟩
theorem yVb{a b:Int}(ha:k4a a=true)(hb:k4a b=true):qCb a b=iOr a b/\k4a (iOr a b)=true:=by
 obtain ⟨x,rfl⟩:=vmb ha;obtain ⟨y,rfl⟩:=vmb hb;obtain ⟨h1,h2⟩:=wib x y;exact ⟨h1,h1▸h2⟩
def orL(n:Int)(l:List zca):Int:=l.foldl (fun n r=>iOr n r.Notify) n
def z7a(s:Str)(r:zca):Bool:=r.Address==s
def wka:Nat->List zca->List zca
 | 0,_=>[]
 | _,[]=>[]
 | n+1,r::t=>⟨r.Address,orL r.Notify (t.filter (z7a r.Address))⟩::wka n (t.filter fun x=> !z7a r.Address x)
theorem zlb:∀(n m:Nat) (l:List zca),l.length<=n->l.length<=m->wka n l=wka m l:=by
 intro n;induction n with
 | zero=>intro m l h1 h2;have:l=[]:=List.length_eq_zero_iff.1 (by omega);subst this;cases m <;> rfl
 | succ n ih=>
  intro m l h1 h2;cases l with
  | nil=>cases m <;> rfl
  | cons r t=>
   cases m with
   | zero=>simp at h2
   | succ m=>
    unfold wka
    congr 1
    have:=List.length_filter_le (fun x=> !z7a r.Address x) t;simp at h1 h2;exact ih m _ (by omega) (by omega)
def vTa(l:List zca):List zca:=wka l.length l
theorem K6a(r:zca)(t:List zca):vTa (r::t)=⟨r.Address,orL r.Notify (t.filter (z7a r.Address))⟩::vTa (t.filter fun x=> !z7a r.Address x):=by
 unfold vTa;rw[List.length_cons,wka]
 congr 1
 have:=List.length_filter_le (fun x=> !z7a r.Address x) t;exact zlb _ _ _ this (Nat.le_refl _)
def hasA(out:List zca)(s:Str):Bool:=out.any (z7a s)
def putR(out:List zca)(r:zca):List zca:=if hasA out r.Address then out.map (fun x=>if z7a r.Address x then ⟨x.Address,iOr x.Notify r.Notify⟩ else x) else out++ [r]
theorem wjb:∀(l out:List zca),l.foldl putR out=out.map (fun x=>⟨x.Address,orL x.Notify (l.filter (z7a x.Address))⟩)++vTa (l.filter fun x=> !hasA out x.Address):=by
 intro l;induction l with
 | nil=>intro out;simp[orL,vTa,wka]
 | cons r t ih=>
  intro out;rw[List.foldl_cons,ih];unfold putR;cases hh:hasA out r.Address with
  | true=>
   simp only[if_true,List.map_map];have hs:∀s,hasA (out.map fun x=>if z7a r.Address x then (⟨x.Address,iOr x.Notify r.Notify⟩:zca) else x) s=hasA out s:=by
    intro s;unfold hasA;rw[List.any_map]
    congr 1
    funext x;show z7a s (if z7a r.Address x then _ else x)=z7a s x;by_cases hq:z7a r.Address x=true
    .rw[if_pos hq];rfl
    rw[if_neg hq]
   have h1:(r::t).filter (fun x=> !hasA out x.Address)=t.filter fun x=> !hasA out x.Address:=by rw[List.filter_cons,hh];rfl
   rw[h1];simp only[hs]
   congr 1
   apply List.map_congr_left;intro x hx;simp only[Function.comp];by_cases hr:z7a r.Address x=true
   .rw[if_pos hr];have:r.Address=x.Address:=by simpa[z7a]using (beq_iff_eq.1 hr).symm
    have h2:(r::t).filter (z7a x.Address)=r::t.filter (z7a x.Address):=by
     rw[List.filter_cons];simp[z7a,this]
    rw[h2];rfl
   rw[if_neg hr];have h2:(r::t).filter (z7a x.Address)=t.filter (z7a x.Address):=by
    rw[List.filter_cons];have:z7a x.Address r=false:=by
     rw[Bool.eq_false_iff];intro h;exact hr (by simp[z7a]at h ⊢;exact h.symm)
    rw[this];rfl
   rw[h2]
  | false=>
   simp only[Bool.false_eq_true,if_false,List.map_append,List.map_cons,List.map_nil,List.append_assoc];have h1:(r::t).filter (fun x=> !hasA out x.Address)=r::t.filter fun x=> !hasA out x.Address:=by rw[List.filter_cons,hh];rfl
   rw[h1,K6a];have hno:∀x∈out,z7a x.Address r=false:=by
    intro x hx;unfold hasA at hh;rw[List.any_eq_false]at hh;have:=hh x hx;rw[Bool.eq_false_iff];intro h;exact this (by simp[z7a]at h ⊢;exact h.symm)
   congr 1
   .apply List.map_congr_left;intro x hx;rw[List.filter_cons,hno x hx];rfl
   have h3:(t.filter fun x=> !hasA out x.Address).filter (z7a r.Address)=t.filter (z7a r.Address):=by
    rw[List.filter_filter];apply List.filter_congr;intro x hx;by_cases hs:z7a r.Address x=true
    .have:x.Address=r.Address:=by simpa[z7a]using hs
     rw[hs,this,hh];rfl
    rw[Bool.not_eq_true]at hs;rw[hs];rfl
   have h4:(t.filter fun x=> !hasA out x.Address).filter (fun x=> !z7a r.Address x)=t.filter fun x=> !hasA (out++ [r]) x.Address:=by
    rw[List.filter_filter];apply List.filter_congr;intro x hx;unfold hasA;rw[List.any_append];simp only[List.any_cons,List.any_nil,Bool.or_false,Bool.not_or];have:z7a x.Address r=z7a r.Address x:=by unfold z7a;rw[Bool.eq_iff_iff];simp;exact ⟨fun h=>h.symm,fun h=>h.symm⟩
    rw[this,Bool.and_comm]
   rw[h3,h4];rfl
theorem put_all(l:List zca):l.foldl putR []=vTa l:=by
 rw[wjb];have:l.filter (fun x=> !hasA [] x.Address)=l:=List.filter_eq_self.2 (fun x _=>by simp[hasA]);rw[this];rfl
def refM:List zca->List zca->List zca
 | out,[]=>out
 | out,r::t=>refM (if hasA out r.Address then out else out++ [⟨r.Address,orL r.Notify (t.filter (z7a r.Address))⟩]) t
theorem refM_eq:∀(l out:List zca),refM out l=out++vTa (l.filter fun x=> !hasA out x.Address):=by
 intro l;induction l with
 | nil=>intro out;simp[refM,vTa,wka]
 | cons r t ih=>
  intro out;unfold refM;rw[ih];cases hh:hasA out r.Address with
  | true=>
   simp only[if_true];rw[List.filter_cons,hh];rfl
  | false=>
   simp only[Bool.false_eq_true,if_false];have h1:(r::t).filter (fun x=> !hasA out x.Address)=r::t.filter fun x=> !hasA out x.Address:=by rw[List.filter_cons,hh];rfl
   rw[h1,K6a,List.append_assoc];have h3:(t.filter fun x=> !hasA out x.Address).filter (z7a r.Address)=t.filter (z7a r.Address):=by
    rw[List.filter_filter];apply List.filter_congr;intro x hx;by_cases hs:z7a r.Address x=true
    .have:x.Address=r.Address:=by simpa[z7a]using hs
     rw[hs,this,hh];rfl
    rw[Bool.not_eq_true]at hs;rw[hs];rfl
   have h4:(t.filter fun x=> !hasA out x.Address).filter (fun x=> !z7a r.Address x)=t.filter fun x=> !hasA (out++ [⟨r.Address,orL r.Notify (t.filter (z7a r.Address))⟩]) x.Address:=by
    rw[List.filter_filter];apply List.filter_congr;intro x hx;unfold hasA;rw[List.any_append];simp only[List.any_cons,List.any_nil,Bool.or_false,Bool.not_or];have:z7a x.Address (⟨r.Address,orL r.Notify (t.filter (z7a r.Address))⟩:zca)=z7a r.Address x:=by unfold z7a;rw[Bool.eq_iff_iff];simp;exact ⟨fun h=>h.symm,fun h=>h.symm⟩
    rw[this,Bool.and_comm]
   rw[h3,h4];rfl
theorem refM_all(l:List zca):refM [] l=vTa l:=by
 rw[refM_eq];have:l.filter (fun x=> !hasA [] x.Address)=l:=List.filter_eq_self.2 (fun x _=>by simp[hasA]);rw[this];rfl
theorem wkb(s:Str):∀(l:List zca) (n:Int),k4a n=true->(∀r∈l,k4a r.Notify=true)->l.foldl (fun n r=>if r.Address==s then qCb n r.Notify else n) n=orL n (l.filter (z7a s)):=by
 intro l;induction l with
 | nil=>intro n _ _;rfl
 | cons r t ih=>
  intro n hn h;have hr:=h r (by simp);obtain ⟨e1,e2⟩:=yVb hn hr;rw[List.foldl_cons,List.filter_cons];unfold z7a;by_cases hs:(r.Address==s)=true
  .rw[if_pos hs,if_pos hs,ih _ (by rw[e1];exact e2) (fun x hx=>h x (by simp[hx])),e1];rfl
  rw[if_neg hs,if_neg hs,ih _ hn (fun x hx=>h x (by simp[hx]))];rfl
def mq(i:Nat)(r:zca):Option zra:=if !k3a r.Address then some ⟨10,i⟩ else if !k4a r.Notify then some ⟨3,i⟩ else none
def vnb(l:List zca):List zca × zra:=if 300 < l.length then ([],⟨2, -1⟩) else match zya mq 0 l with | some f=>([],f) | none=>(vTa l,⟨0,0⟩)
theorem qEb{α R:Type}(q:Nat->α->Option R)(i:Nat)(x:α)(r:List α):zya q i (x::r)=match q i x with | some y=>some y | none=>zya q (i+1) r:=rfl
def posA(out:List zca)(s:Str):Option Nat:=out.findIdx? (z7a s)
theorem zmb(out:List zca)(s:Str):(posA out s).isSome=hasA out s:=by unfold posA hasA;exact List.findIdx?_isSome
theorem posA_app(out:List zca)(r:zca)(s:Str)(h:hasA out r.Address=false):posA (out++ [r]) s=if r.Address==s then some out.length else posA out s:=by
 unfold posA;rw[List.findIdx?_append];by_cases hs:(r.Address==s)=true
 .rw[if_pos hs];have e:r.Address=s:=beq_iff_eq.1 hs;subst e;have:out.findIdx? (z7a r.Address)=none:=by
   have:=zmb out r.Address;rw[h]at this;unfold posA at this;simpa using this
  rw[this];simp[z7a]
 rw[if_neg hs];have:z7a s r=false:=by unfold z7a;simpa using hs
 simp[List.findIdx?_cons,this]
theorem posA_map(out:List zca)(f:zca->zca)(hf:∀x,(f x).Address=x.Address)(s:Str):posA (out.map f) s=posA out s:=by
 unfold posA;rw[List.findIdx?_map]
 congr 1
 funext x;simp[Function.comp,z7a,hf]
theorem posA_get:∀(out:List zca) (s:Str) (k:Nat),posA out s=some k->∃x,out[k]? =some x/\x.Address=s:=by
 intro out s k h;unfold posA at h;rw[List.findIdx?_eq_some_iff_getElem]at h;obtain ⟨h1,h2,_⟩:=h;exact ⟨out[k],List.getElem?_eq_getElem h1,by simpa[z7a]using h2⟩
theorem set_map(s:Str)(f:zca->zca):∀(out:List zca) (k:Nat) (x:zca),(out.map (·.Address)).Nodup->posA out s=some k->out[k]? =some x->out.set k (f x)=out.map (fun y=>if z7a s y then f y else y):=by
 intro out;induction out with
 | nil=>intro k x _ h;simp[posA]at h
 | cons y out ih=>
  intro k x hn hp hk;rw[List.map_cons,List.nodup_cons]at hn;unfold posA at hp;rw[List.findIdx?_cons]at hp;by_cases hy:z7a s y=true
  .rw[if_pos hy]at hp;cases hp;simp at hk;subst hk;rw[List.set_cons_zero,List.map_cons,if_pos hy]
   congr 1
   symm
   rw[List.map_congr_left (g:=id)]
   .simp
   intro z hz;have:¬z7a s z=true:=by
    intro h;have e1:y.Address=s:=by simpa[z7a]using hy
    have e2:z.Address=s:=by simpa[z7a]using h
    exact hn.1 (by rw[e1,<-e2];exact List.mem_map_of_mem hz)
   rw[if_neg this];rfl
  rw[if_neg hy]at hp;cases hq:out.findIdx? (z7a s) with
  | none=>rw[hq]at hp;simp at hp
  | some k' =>
   rw[hq]at hp;simp at hp;subst hp;rw[List.set_cons_succ,List.map_cons,if_neg hy,ih k' x hn.2 hq (by simpa using hk)]
structure MInv (i:Nat) (out:List zca) (m:List (Str × Int)):Prop where
 len:out.length<=i
 nd:(out.map (·.Address)).Nodup
 mp:∀s,mget m s=(posA out s).map fun k=>((k:Nat):Int)
theorem MInv.put{i:Nat}{out:List zca}{m:List (Str × Int)}(h:MInv i out m)(r:zca):MInv (i+1) (putR out r) (if hasA out r.Address then m else mput m r.Address (out.length:Int)):=by
 unfold putR;cases hh:hasA out r.Address with
 | true=>
  simp only[if_true];have hf:∀x:zca,(if z7a r.Address x then (⟨x.Address,iOr x.Notify r.Notify⟩:zca) else x).Address=x.Address:=by intro x;split <;> rfl
  refine ⟨by simp;have:=h.len;omega,?_,fun s=>?_⟩
  .rw[List.map_map,show ((·.Address) ∘ fun x:zca=>if z7a r.Address x then (⟨x.Address,iOr x.Notify r.Notify⟩:zca) else x)=(·.Address) from funext hf];exact h.nd
  rw[posA_map _ _ hf];exact h.mp s
 | false=>
  simp only[Bool.false_eq_true,if_false];refine ⟨by simp;exact h.len,?_,fun s=>?_⟩
  .rw[List.map_append,List.nodup_append];refine ⟨h.nd,by simp,?_⟩;intro a ha b hb;simp at hb;subst hb;rintro rfl;obtain ⟨x,hx,hxe⟩:=List.mem_map.1 ha;unfold hasA at hh;rw[List.any_eq_false]at hh;exact hh x hx (by simp[z7a,hxe])
  rw[wcb,posA_app _ _ _ hh,h.mp s];by_cases hs:(r.Address==s)=true
  .rw[if_pos hs,if_pos hs];rfl
  rw[if_neg hs,if_neg hs]
theorem Vga(l:List zca)(h:WRa l):vua l=some (vnb l):=by
 obtain ⟨h3,h4⟩:=h;unfold vua vnb;by_cases h300:300 < l.length
 .have:decide ((300:Int) < (l.length:Int))=true:=by simp;omega
  rw[this,if_pos h300];rfl
 have:decide ((300:Int) < (l.length:Int))=false:=by simp;omega
 rw[this,if_neg h300];simp only[cond_false];rw[Y5a (body:=qna l) (s0:=((0:Int),([]:List zca),([]:List (Str × Int)))) (S:=List zca × List (Str × Int)) l (fun i s=>((i:Int),s.1,s.2)) (fun i r s=>match zya mq i r with | some f=>Sum.inr ([],f) | none=>Sum.inl (r.foldl putR s.1)) (fun i r s=>MInv i s.1 s.2)
  (fun s hi=>by unfold qna;simp[zMa,zya])
  (fun p x r s hl hi=>by
   have hx:l[p.length]? =some x:=by rw[hl];simp
   have hlt:=zLa hx;have ha:=h4 x (List.mem_of_getElem? hx);have hil:=hi.len;have hmp:=hi.mp x.Address;have hq0:mq p.length x=if !k3a x.Address then some ⟨10,(p.length:Int)⟩ else if !k4a x.Notify then some ⟨3,(p.length:Int)⟩ else none:=rfl;rw[qEb,hq0];unfold qna;dsimp only;rw[koa hx,zCa hx];simp only[cond_true,Option.bind_some,kZa _ (show x.Address.length < 4294967281 by omega),waa,zWa];cases hA:k3a x.Address with
   | false=>left;rfl
   | true=>
    cases hN:k4a x.Notify with
    | false=>left;rfl
    | true=>
     right;simp only[Bool.not_true,cond_false,Bool.false_eq_true,if_false];refine ⟨(putR s.1 x,if hasA s.1 x.Address then s.2 else mput s.2 x.Address (s.1.length:Int)),?_,rfl,hi.put x⟩;unfold qma;rw[hmp];cases hp:posA s.1 x.Address with
     | some k=>
      obtain ⟨y,hy,hya⟩:=posA_get _ _ _ hp;have hh:hasA s.1 x.Address=true:=by rw[<-zmb,hp];rfl
      simp only[Option.map_some,Option.isSome_some,cond_true,Option.getD_some,zCa hy,Option.bind_some,Int.toNat_natCast,sc p.length (by omega),hh,if_true];unfold putR;rw[hh,if_pos rfl,set_map x.Address (fun y=>⟨y.Address,iOr y.Notify x.Notify⟩) s.1 k y hi.nd hp hy]
     | none=>
      have hh:hasA s.1 x.Address=false:=by rw[<-zmb,hp];rfl
      simp only[Option.map_none,Option.isSome_none,cond_false,hh,Bool.false_eq_true,if_false];rw[kla (by simp;omega)];simp only[Option.bind_some,sc p.length (by omega)];unfold putR;rw[hh];rfl) ([],[]) rfl ⟨Nat.le_refl _,by simp,fun s=>rfl⟩]
 simp only[Option.bind_some,kAa,put_all];cases zya mq 0 l with
 | some f=>rfl
 | none=>rfl
theorem qFb(l:List zca)(h:l.length<=1048576)(hn:∀r∈l,k4a r.Notify=true):J4a l=some (vTa l):=by
 unfold J4a;rw[Y5a (body:=j8a l) (s0:=((0:Int),([]:List zca))) (S:=List zca) l (fun i s=>((i:Int),s)) (fun i r s=>refM s r) (fun i r s=>s.length<=i)
  (fun s hi=>by unfold j8a;simp[zMa,refM])
  (fun p x r s hl hi=>by
   have hx:l[p.length]? =some x:=by rw[hl];simp
   have hlt:=zLa hx;have hnx:=hn x (List.mem_of_getElem? hx);right;refine ⟨_,?_,rfl,?_⟩
   .unfold j8a;dsimp only;rw[koa hx,zCa hx];simp only[cond_true,Option.bind_some,wdb _ _ (show s.length<=1048576 by omega),sc p.length (by omega)];have hk:decide ((0:Int)<=(zya (fun i y=>if y.Address==x.Address then some ((i:Nat):Int) else none) 0 s).getD (-1))=hasA s x.Address:=z6b (fun y=>y.Address==x.Address) s 0;rw[hk];cases hh:hasA s x.Address with
    | true=>rfl
    | false=>
     have hin:=J9a l (fun i (n:Int)=>(i,n)) (fun n y=>if y.Address==x.Address then qCb n y.Notify else n) (fun n=>n) (fun _ _=>True) (body:=j7a l x)
      (fun n _=>by unfold j7a;simp[zMa]) (fun i y n hy _=>by
       have hlt2:=zLa hy;refine ⟨?_,trivial⟩;unfold j7a;dsimp only;rw[koa hy,zCa hy];simp only[cond_true,Option.bind_some,qDb,sc i (by omega)];cases y.Address==x.Address <;> rfl) r (p++ [x]) x.Notify (by simp[hl]) trivial
     have e:(((p++ [x]).length:Nat):Int)=((p.length+1:Nat):Int):=by simp
     rw[e]at hin;rw[hin,wkb x.Address r x.Notify hnx (fun y hy=>hn y (by rw[hl];simp[hy]))];simp only[cond_false,Option.bind_some,Bool.false_eq_true,if_false];rw[kla (by simp;omega)];rfl
   split
   .omega
   simp;omega) ([]:List zca) rfl (Nat.zero_le _)]
 simp only[Option.bind_some,refM_all]
def keb(m:zwa):zra:=if (envF m.Envelope).Code !=0 then envF m.Envelope else if (msgF m.Message).Code !=0 then ⟨(msgF m.Message).Code, -30⟩ else ⟨0,0⟩
theorem Vha(m:zwa)(h1:yJb m.Envelope)(h2:Jba m.Message):vva m=some (keb m):=by
 unfold vva keb;rw[Kza _ h1,vOa _ h2];simp only[Option.bind_some,zQa,zWa,kAa];cases (envF m.Envelope).Code !=0 <;> cases (msgF m.Message).Code !=0 <;> rfl
theorem map_fold{α β:Type}(f:α->β)(l:List α):∀o:List β,l.foldl (fun o x=>o++ [f x]) o=o++l.map f:=by
 induction l with
 | nil=>intro o;simp
 | cons x l ih=>intro o;simp[ih]
def lowC(c:UInt8):UInt8:=bif decide ((65:UInt8)<=c) && decide (c<=90) then c+97 - 65 else c
def lowP(s:Str):Str:=s.map lowC
theorem jza(s:Str)(hs:s.length<=1048576):vKa s=some (lowP s):=by
 unfold vKa;have key:∀r p:Str,s=p++r->iter (qca s) ((p.length:Int),p.map lowC++r)=some (lowP s):=by
  intro r;induction r with
  | nil=>
   intro p h;have hp:p=s:=by simp[h]
   subst hp;refine zAa ?_;unfold qca;dsimp only;rw[zMa];simp[lowP]
  | cons c r ih=>
   intro p h;have hx:s[p.length]? =some c:=by simp[h]
   have hi:=zLa hx;have hx2:(p.map lowC++c::r)[p.length]? =some c:=by
    rw[List.getElem?_append_right (by simp)];simp
   have hb:qca s ((p.length:Int),p.map lowC++c::r)=some (.cont (((p.length+1:Nat):Int),(p++ [c]).map lowC++r)):=by
    unfold qca;dsimp only;rw[koa hx,zCa hx2];simp only[cond_true,Option.bind_some,jia 65 c (by decide),jja 90 c (by decide),sc p.length (by omega),Int.toNat_natCast];have hset:(p.map lowC++c::r).set p.length (lowC c)=(p++ [c]).map lowC++r:=by
     rw[List.set_append_right _ _ (by simp)];simp
    have hsame:lowC c=c->p.map lowC++c::r=(p++ [c]).map lowC++r:=by intro h;simp[h]
    unfold lowC at hset hsame ⊢;cases h1:decide ((65:UInt8)<=c) <;> cases h2:decide (c<=90) <;> rw[h1,h2]at hset hsame <;> simp only[Bool.and_true,Bool.and_false,Bool.true_and,Bool.false_and,cond_true,cond_false,Option.bind_some]at hset hsame ⊢
    .rw[hsame trivial]
    .rw[hsame trivial]
    .rw[hsame trivial]
    rw[hset]
   rw[zOa hb];have:=ih (p++ [c]) (by simp[h]);simpa using this
 have:=key s [] rfl;have h2:iter (qca s) (0,s)=some (lowP s):=this;rw[h2];rfl
theorem KMa(n:Str)(hn:n.length<=1048576):wya n=some (fnP n):=by
 unfold wya;rw[jla n [] hn (by simp)];simp only[Option.bind_some,zQa,Option.some.injEq];have h:=zhb ⟨n,[]⟩;unfold Zga at h;dsimp only at h;rw[h];unfold yTb;cases hf:fnP n with
 | false=>rfl
 | true=>
  have h60:n.length<=60:=by unfold fnP at hf;simp only[Bool.and_eq_true,decide_eq_true_eq]at hf;exact hf.1.2
  have hl:flP n []=[txt n []]:=by unfold flP;exact vNa (.inl (by have:=WTa n [];simp at this;omega))
  have hlb:zgb (flP n [])=false:=by
   rw[hl];have:=WTa n [];unfold zgb;simp at this ⊢;omega
  have hv:valP []=true:=rfl;rw[hlb,hv];rfl
theorem jma(s t:List UInt8)(hs:s.length<=9223372036854775806):kCa s t=some (t.isSuffixOf s):=by
 unfold kCa wua;by_cases h:t.length<=s.length
 .have:decide ((t.length:Int)<=(s.length:Int))=true:=by simp;omega
  rw[this,w64_ns _ _ h (by omega),jha (by omega)];simp only[cond_true,Option.bind_some,Option.some.injEq];rw[Bool.eq_iff_iff,beq_iff_eq,List.isSuffixOf_iff_suffix,List.suffix_iff_eq_drop];constructor <;> exact fun h=>h.symm
 have:decide ((t.length:Int)<=(s.length:Int))=false:=by simp;omega
 rw[this];simp only[cond_false,Option.bind_some,Option.some.injEq]
 symm
 rw[Bool.eq_false_iff];intro hp;exact h (List.isSuffixOf_iff_suffix.1 hp).length_le
def chop(s:List UInt8):List UInt8:=if [13].isSuffixOf s then s.take (s.length - 1) else s
theorem znb(s:List UInt8)(hs:s.length<=9223372036854775806):kHa s [13]=some (chop s):=by
 unfold kHa chop;rw[jma s _ hs];cases h: [13].isSuffixOf s with
 | false=>rfl
 | true=>
  have hl:=(List.isSuffixOf_iff_suffix.1 h).length_le;simp only[List.length_cons,List.length_nil]at hl;simp only[Option.bind_some,cond_true,List.length_cons,List.length_nil];rw[show ((s.length:Int) - ((0+1:Nat):Int))=((s.length - 1:Nat):Int) by omega,Zxa _ (by omega),Zoa (by omega)];rfl
def eol(b:List UInt8):Nat:=b.findIdx (· ==10)
theorem KNa(c:UInt8):∀b:List UInt8,Lib.indexByte b c=if b.findIdx (· ==c) < b.length then ((b.findIdx (· ==c):Nat):Int) else -1
 | []=>rfl
 | x::b=>by
  have ih:=KNa c b;unfold Lib.indexByte;rw[List.findIdx_cons,ih];cases hx:x==c with
  | true=>simp
  | false=>
   simp only[Bool.false_eq_true,if_false,cond_false,List.length_cons];by_cases h:b.findIdx (· ==c) < b.length
   .rw[if_pos h,if_neg (by simp),if_pos (by omega)];simp
   rw[if_neg h,if_pos (show ((-1:Int)== -1)=true from rfl),if_neg (by omega)]
def ysa(b:List UInt8):List UInt8 × Nat:=if eol b < b.length then (chop (b.take (eol b)),eol b+1) else (b,b.length)
theorem YFa(b:List UInt8)(hb:b.length<=1048576):ySa b=some ((ysa b).1,((ysa b).2:Int)):=by
 unfold ySa ysa qra;simp only[Option.bind_some];rw[KNa,show b.findIdx (· ==10)=eol b from rfl];by_cases h:eol b < b.length
 .rw[if_pos h,if_pos h,decide_eq_false (by omega),cond_false,Zoa (by omega)];simp only[Option.bind_some];rw[znb _ (by simp;omega)];simp only[Option.bind_some];rw[w64_nl _ _ (show eol b+OfNat.ofNat 1<=_ by show eol b+1<=_;omega)]
 rw[if_neg h,if_neg h];rfl
theorem yWb{b:List UInt8}{i:Nat}(hi:i < b.length): [13].isSuffixOf (b.take i)=(decide (0 < i) && (b[i - 1]?).elim false (· ==13)):=by
 cases i with
 | zero=>simp
 | succ i=>
  rw[List.take_add_one,List.getElem?_eq_getElem (by omega:i < b.length)];simp only[Option.toList_some,Nat.succ_sub_one,Nat.zero_lt_succ,decide_true,Bool.true_and,Nat.add_sub_cancel];rw[List.getElem?_eq_getElem (by omega:i < b.length)];simp only[Option.elim_some];rw[Bool.eq_iff_iff,List.isSuffixOf_iff_suffix,beq_iff_eq];constructor
  .rintro ⟨t,ht⟩;have:=(List.append_inj' ht rfl).2;simpa using this.symm
  intro h;rw[h];exact ⟨_,rfl⟩
theorem Via{R:Type}(c:UInt8)(r:Nat->R):∀(l:List UInt8) (n:Nat),zya (fun i x=>if x==c then some (r i) else none) n l=if l.findIdx (· ==c) < l.length then some (r (n+l.findIdx (· ==c))) else none
 | [],n=>rfl
 | x::l,n=>by
  unfold zya;rw[List.findIdx_cons];cases hx:x==c with
  | true=>simp
  | false=>
   simp only[Bool.false_eq_true,if_false,cond_false,List.length_cons];rw[Via c r l (n+1)];by_cases h:l.findIdx (· ==c) < l.length
   .rw[if_pos h,if_pos (by omega),show n+1+l.findIdx (· ==c)=n+(l.findIdx (· ==c)+1) by omega]
   rw[if_neg h,if_neg (by omega)]
theorem zob(b:List UInt8)(hb:b.length<=1048576):Q9a b=some ((ysa b).1,((ysa b).2:Int)):=by
 unfold Q9a;rw[zTa b (fun i x=>if x==10 then some (chop (b.take i),((i+1:Nat):Int)) else none) (.inl ()) .inr]
 .rw[Via];unfold ysa;rw[show b.findIdx (· ==10)=eol b from rfl];by_cases h:eol b < b.length
  .rw[if_pos h,if_pos h];simp
  rw[if_neg h,if_neg h];rfl
 .unfold Zba;rw[zMa];rfl
 intro i c hc;have hi:=zLa hc;unfold Zba;rw[koa hc,zCa hc];simp only[cond_true,Option.bind_some];rw[Kwa c 10 (by decide)];cases h10:c==10 with
 | false=>
  simp only[bne,h10,Bool.not_false,cond_true,Bool.false_eq_true,if_false,Option.elim_none];rw[sc i (by omega)]
 | true=>
  simp only[bne,h10,Bool.not_true,cond_false,if_true,Option.elim_some];have hch:chop (b.take i)=if (decide (0 < i) && (b[i - 1]?).elim false (· ==13)) then b.take (i - 1) else b.take i:=by
   unfold chop;rw[yWb hi];split
   .rw[List.length_take,Nat.min_eq_left (by omega),List.take_take,Nat.min_eq_left (by omega)]
   rfl
  cases i with
  | zero=>
   rw[hch];rfl
  | succ i=>
   have e1:decide ((0:Int) < ((i+1:Nat):Int))=true:=by simp
   have e2:w64 (((i+1:Nat):Int) - 1)=((i:Nat):Int):=by rw[show (((i+1:Nat):Int) - 1)=((i:Nat):Int) by omega,Zxa _ (by omega)]
   rw[e1,e2,wCa,List.getElem?_eq_getElem (by omega:i < b.length)];simp only[cond_true,Option.bind_some];rw[qJa _ 13 (by decide),Zoa (by omega),Zoa (by omega),hch];simp only[Nat.add_sub_cancel,List.getElem?_eq_getElem (by omega:i < b.length),Option.elim_some,Nat.zero_lt_succ,decide_true,Bool.true_and];rw[sc (i+1) (by omega)];cases b[i]==13 <;> rfl
theorem WYa{b:List UInt8}(h:b≠ []):1<=(ysa b).2/\(ysa b).2<=b.length/\(ysa b).1.length<=b.length:=by
 have:=List.length_pos_iff.2 h;unfold ysa;split
 .refine ⟨by simp,by simp;omega,?_⟩;unfold chop;split <;> simp <;> omega
 exact ⟨this,Nat.le_refl _,Nat.le_refl _⟩
def wca(l:List UInt8):List UInt8:=(l.reverse.dropWhile zNa).reverse
theorem kfb:(fun x=>([32,9]:List UInt8).contains x)=zNa:=by
 funext x;simp[zNa,List.contains,List.elem];cases h1:x==32 <;> cases h2:x==9 <;> simp_all
theorem VJa(s:Str)(hs:s.length<=9223372036854775807):qqa s [32,9]=some (wca s):=by
 unfold qqa Lib.trimRightS wca;rw[if_pos ⟨hs,by decide,rfl⟩,kfb]
theorem Jda(c:UInt8):∀b:List UInt8,Lib.index b [c]=if b.findIdx (· ==c) < b.length then ((b.findIdx (· ==c):Nat):Int) else -1
 | []=>rfl
 | x::b=>by
  have ih:=Jda c b;unfold Lib.index;rw[List.findIdx_cons,ih];have hp:([c]:List UInt8).isPrefixOf (x::b)=(x==c):=by
   simp only[List.isPrefixOf,Bool.and_true];rw[Bool.eq_iff_iff,beq_iff_eq,beq_iff_eq];exact eq_comm
  rw[hp];cases hx:x==c with
  | true=>simp
  | false=>
   simp only[Bool.false_eq_true,if_false,cond_false,List.length_cons];by_cases h:b.findIdx (· ==c) < b.length
   .rw[if_pos h,if_neg (by simp),if_pos (by omega)];simp
   rw[if_neg h,if_pos (show ((-1:Int)== -1)=true from rfl),if_neg (by omega)]
def colI(s:Str):Nat:=s.findIdx (· ==58)
def colP(s:Str):Str × Str × Bool:=if colI s < s.length then (wca (s.take (colI s)),s.drop (colI s+1),fnP (wca (s.take (colI s)))) else (wca s,[],false)
theorem jTa(s:Str):(wca s).length<=s.length:=by
 unfold wca;rw[List.length_reverse];have:=(List.dropWhile_sublist zNa (l:=s.reverse)).length_le;simpa using this
theorem yXb(s:Str):Lib.cut s [58]=if colI s < s.length then (s.take (colI s),s.drop (colI s+1),true) else (s,[],false):=by
 unfold Lib.cut;rw[Jda,show s.findIdx (· ==58)=colI s from rfl];by_cases h:colI s < s.length
 .rw[if_pos h,if_pos h,if_pos (by omega)];simp
 rw[if_neg h,if_neg h,if_neg (by omega)]
theorem VVa(s:Str)(hs:s.length<=1048576):v5a s=some (⟨(colP s).1,(colP s).2.1⟩,(colP s).2.2):=by
 unfold v5a qAa;rw[if_pos (by omega)];simp only[Option.bind_some];rw[yXb];unfold colP;by_cases h:colI s < s.length
 .rw[if_pos h,if_pos h];dsimp only;rw[VJa _ (by simp;omega)];simp only[Option.bind_some,cond_true];rw[KMa _ (by have:=jTa (s.take (colI s));simp at this;omega)];rfl
 rw[if_neg h,if_neg h];dsimp only;rw[VJa _ (by omega)];rfl
theorem yYb(n:Str)(hn:n.length<=1048576):(Zga ⟨n,[]⟩==0)=fnP n:=by
 have h1:=KMa n hn;unfold wya at h1;rw[jla n [] hn (by simp)]at h1;simp only[Option.bind_some,zQa,Option.some.injEq]at h1;rw[<-h1];show (Zga ⟨n,[]⟩==0)= !(Zga ⟨n,[]⟩ !=0);simp[bne]
theorem Jea(l:Str)(x:UInt8):wca (l++ [x])=if zNa x then wca l else l++ [x]:=by
 unfold wca;rw[List.reverse_append,List.reverse_cons,List.reverse_nil,List.nil_append,List.singleton_append,List.dropWhile_cons];split
 .rfl
 simp
theorem wlb(s:Str)(hs:s.length<=1048576)(i:Nat)(hi:i<=s.length):∃k:Nat,iter (jPa s) (i:Int)=some (k:Int)/\k<=i/\s.take k=wca (s.take i):=by
 obtain ⟨r,h1,k,h2,h3,h4⟩:=Wia (body:=jPa s) (fun n=>∃m:Nat,n=(m:Int)/\m<=i/\wca (s.take m)=wca (s.take i)) (fun n=>n.toNat) (fun _ r=>∃k:Nat,r=(k:Int)/\k<=i/\s.take k=wca (s.take i)) (by
  rintro _ ⟨m,rfl,hm,he⟩;cases m with
  | zero=>exact .inl ⟨0,rfl,0,rfl,Nat.zero_le _,he⟩
  | succ m=>
   have hml:m < s.length:=by omega
   have e1:decide ((0:Int) < ((m+1:Nat):Int))=true:=by simp
   have e2:w64 (((m+1:Nat):Int) - 1)=((m:Nat):Int):=by rw[show (((m+1:Nat):Int) - 1)=((m:Nat):Int) by omega,Zxa _ (by omega)]
   have hb:jPa s ((m+1:Nat):Int)=some (bif zNa s[m] then .cont (m:Int) else .out ((m+1:Nat):Int)):=by
    unfold jPa;rw[e1,e2,wCa,List.getElem?_eq_getElem hml];simp only[cond_true,Option.bind_some,yxa];cases zNa s[m] <;> rfl
   have ht:s.take (m+1)=s.take m++ [s[m]]:=by rw[List.take_add_one,List.getElem?_eq_getElem hml];rfl
   rw[ht,Jea]at he;rw[hb];cases hx:zNa s[m] with
   | true=>
    rw[hx,if_pos rfl]at he;exact .inr ⟨(m:Int),rfl,⟨m,rfl,by omega,he⟩,by simp,fun _ h=>h⟩
   | false=>
    rw[hx,if_neg (by simp)]at he;exact .inl ⟨((m+1:Nat):Int),rfl,m+1,rfl,hm,by rw[ht];exact he⟩) (i:Int) ⟨i,rfl,Nat.le_refl _,rfl⟩
 subst h2;exact ⟨k,h1,h3,h4⟩
theorem Jfa(s:Str)(hs:s.length<=1048576):qtb s=some (bif (colP s).2.2 then ((colP s).1,(colP s).2.1) else ([],[])):=by
 unfold qtb;rw[zTa s (fun i x=>if x==58 then some (bif fnP (wca (s.take i)) then (wca (s.take i),s.drop (i+1)) else (([]:Str),([]:Str))) else none) (.inl ()) .inr]
 .rw[Via];unfold colP;rw[show s.findIdx (· ==58)=colI s from rfl];by_cases h:colI s < s.length
  .rw[if_pos h,if_pos h];simp only[Nat.zero_add,Option.bind_some,Option.elim_some,Sum.elim_inr]
  rw[if_neg h,if_neg h];rfl
 .unfold Vaa;rw[zMa];rfl
 intro i c hc;have hi:=zLa hc;unfold Vaa;rw[koa hc,zCa hc];simp only[cond_true,Option.bind_some];rw[Kwa c 58 (by decide)];cases h10:c==58 with
 | false=>
  simp only[bne,h10,Bool.not_false,cond_true,Bool.false_eq_true,if_false,Option.elim_none];rw[sc i (by omega)]
 | true=>
  simp only[bne,h10,Bool.not_true,cond_false,if_true,Option.elim_some];obtain ⟨k,h1,h2,h3⟩:=wlb s hs i (by omega);rw[h1];simp only[Option.bind_some];rw[Zoa (by omega),h3];simp only[Option.bind_some];rw[KLa ⟨wca (s.take i),[]⟩ (by have:=jTa (s.take i);simp at this ⊢;omega) (by simp)];simp only[Option.bind_some];rw[yYb _ (by have:=jTa (s.take i);simp at this ⊢;omega),sc i (by omega),jha (by omega)];cases fnP (wca (s.take i)) <;> rfl
theorem yZb{s:Str}(h:(colP s).2.2=true):(colP s).1≠ []:=by
 unfold colP at h ⊢;split
 .rename_i hc;rw[if_pos hc]at h;intro he;have h:fnP (wca (s.take (colI s)))=true:=h;have he:wca (s.take (colI s))=[]:=he;rw[he]at h;cases h
 rename_i hc;rw[if_neg hc]at h;cases h
theorem colP_len(s:Str):(colP s).1.length<=s.length/\(colP s).2.1.length<=s.length:=by
 unfold colP;split
 .refine ⟨?_,by simp⟩;have:=jTa (s.take (colI s));simp at this ⊢;omega
 exact ⟨jTa s,by simp⟩
end Go.Proofs.YtmmjihadplknjaaGreatDoor
