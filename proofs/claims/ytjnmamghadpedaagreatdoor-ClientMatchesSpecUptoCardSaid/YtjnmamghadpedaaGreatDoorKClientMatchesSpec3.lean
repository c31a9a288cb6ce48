/- Part 3 of the proof of the law ClientMatchesSpec: what it needs. -/
import Derived.Test.YtjnmamghadpedaaGreatDoorKClientMatchesSpec2
import Derived.Test.YtjnmamghadpedaaGreatDoorProg
import Derived.Lib.IndexMore
import Derived.Lib.IndexAny
import Derived.Lib.Atoi
import Derived.Lib.Join
import Derived.Lib.Repeat
import Derived.Lib.Split
import Derived.Lib.FieldsP
import Derived.Lib.Strings
import Derived.Lib.ItoaMem
import Derived.Laws.RangeAny
import Derived.Lib.SplitLaws
set_option linter.unusedVariables false
set_option linter.unusedSimpArgs false
namespace Go.Proofs.YtjnmamghadpedaaGreatDoor
open Go.RowKit
set_option maxRecDepth 100000
set_option maxHeartbeats 40000000
theorem mixed:Tryz.prog.follows .mixedOrders=true:=by kernel_rfl
theorem WRa:kBb Tryz.prog 119:=⟨by kernel_rfl,by kernel_rfl⟩
theorem vta:kBb Tryz.prog 35:=⟨by kernel_rfl,by kernel_rfl⟩
theorem JTa:kBb Tryz.prog 88:=⟨by kernel_rfl,by kernel_rfl⟩
theorem Vua:kBb Tryz.prog 85:=⟨by kernel_rfl,by kernel_rfl⟩
theorem JUa (w : World) : Sem.run Tryz.prog (Array.mapM (fun (f : Field) => do pure (f.offset, ← sizeOf f.type)) #[⟨"Name", 9, 0, false, "", "", 0⟩, ⟨"Mail", 30, 1, false, "", "", 16⟩, ⟨"Pipelined", 4, 6, false, "", "", 120⟩, ⟨"Buffer", 26, 7, false, "", "", 128⟩, ⟨"Expected", 3, 8, false, "", "", 152⟩, ⟨"Whole", 4, 9, false, "", "", 160⟩, ⟨"Done", 4, 10, false, "", "", 161⟩, ⟨"Results", 31, 11, false, "", "", 168⟩]) w = .ok #[(0, 1), (1, 5), (6, 1), (7, 1), (8, 1), (9, 1), (10, 1), (11, 1)] w := by kernel_rfl
theorem YFa (w : World) : Sem.run Tryz.prog (Array.mapM (fun (f : Field) => do pure (f.offset, ← sizeOf f.type)) #[⟨"Verb", 3, 0, false, "", "", 0⟩, ⟨"Name", 9, 1, false, "", "", 8⟩, ⟨"Address", 9, 2, false, "", "", 24⟩, ⟨"Size", 3, 3, false, "", "", 40⟩, ⟨"Notify", 3, 4, false, "", "", 48⟩, ⟨"Last", 4, 5, false, "", "", 56⟩]) w = .ok #[(0, 1), (1, 1), (2, 1), (3, 1), (4, 1), (5, 1)] w := by kernel_rfl
theorem WSa (w : World) : Sem.run Tryz.prog (Array.mapM (fun (f : Field) => do pure (f.offset, ← sizeOf f.type)) #[⟨"From", 9, 0, false, "", "", 0⟩, ⟨"To", 22, 1, false, "", "", 16⟩, ⟨"Id", 9, 2, false, "", "", 40⟩]) w = .ok #[(0, 1), (1, 1), (2, 1)] w := by kernel_rfl
theorem zEb (w : World) : Sem.run Tryz.prog (Array.mapM (fun (f : Field) => do pure (f.offset, ← sizeOf f.type)) #[⟨"Code", 3, 0, false, "", "", 0⟩, ⟨"Index", 3, 1, false, "", "", 8⟩]) w = .ok #[(0, 1), (1, 1)] w := by kernel_rfl
theorem zFb (w : World) : Sem.run Tryz.prog (Array.mapM (fun (f : Field) => do pure (f.offset, ← sizeOf f.type)) #[⟨"Name", 9, 0, false, "", "", 0⟩, ⟨"Value", 9, 1, false, "", "", 16⟩]) w = .ok #[(0, 1), (1, 1)] w := by kernel_rfl
theorem kXb (w : World) : Sem.run Tryz.prog (Array.mapM (fun (f : Field) => do pure (f.offset, ← sizeOf f.type)) #[⟨"Envelope", 24, 0, false, "", "", 0⟩, ⟨"Message", 28, 3, false, "", "", 56⟩]) w = .ok #[(0, 3), (3, 2)] w := by kernel_rfl
theorem YGa (w : World) : Sem.run Tryz.prog (Array.mapM (fun (f : Field) => do pure (f.offset, ← sizeOf f.type)) #[⟨"Fields", 25, 0, false, "", "", 0⟩, ⟨"Body", 26, 1, false, "", "", 24⟩]) w = .ok #[(0, 1), (1, 1)] w := by kernel_rfl
theorem Wca (w : World) : Sem.run Tryz.prog (Array.mapM (fun (f : Field) => do pure (f.offset, ← sizeOf f.type)) #[⟨"Address", 9, 0, false, "", "", 0⟩, ⟨"Notify", 3, 1, false, "", "", 16⟩]) w = .ok #[(0, 1), (1, 1)] w := by kernel_rfl
theorem zGb (w : World) : Sem.run Tryz.prog (Array.mapM (fun (f : Field) => do pure (f.offset, ← sizeOf f.type)) #[⟨"Code", 3, 0, false, "", "", 0⟩, ⟨"Lines", 76, 1, false, "", "", 8⟩]) w = .ok #[(0, 1), (1, 1)] w := by kernel_rfl
theorem Vva (w : World) : Sem.run Tryz.prog (Array.mapM (fun (f : Field) => do pure (f.offset, ← sizeOf f.type)) #[⟨"Client", 33, 0, true, "", "", 0⟩, ⟨"content", 26, 12, false, "", "posthouse/client", 192⟩, ⟨"chunk", 4, 13, false, "", "posthouse/client", 216⟩, ⟨"out", 26, 14, false, "", "posthouse/client", 224⟩]) w = .ok #[(0, 12), (12, 1), (13, 1), (14, 1)] w := by kernel_rfl
theorem KMa (w : World) : Sem.run Tryz.prog (Array.mapM (fun (f : Field) => do pure (f.offset, ← sizeOf f.type)) #[⟨"n", 3, 0, false, "", "posthouse/command", 0⟩, ⟨"word", 9, 1, false, "", "posthouse/command", 8⟩]) w = .ok #[(0, 1), (1, 1)] w := by kernel_rfl
theorem ZVa (w : World) : Sem.run Tryz.prog (Array.mapM (fun (f : Field) => do pure (f.offset, ← sizeOf f.type)) #[⟨"C", 33, 0, false, "", "", 0⟩, ⟨"Out", 26, 12, false, "", "", 192⟩]) w = .ok #[(0, 12), (12, 1)] w := by kernel_rfl
theorem qKa:TyOk Tryz.prog 183 6 72 (.agg #[.int .i64 0, .string ⟨#[]⟩, .int .i64 0, .string ⟨#[]⟩, .int .i64 0, .string ⟨#[]⟩]) (.array 3 182):=⟨by kernel_rfl,by kernel_rfl⟩
theorem ZWa:TyOk Tryz.prog 168 8 128 (.agg #[.string ⟨#[]⟩, .string ⟨#[]⟩, .string ⟨#[]⟩, .string ⟨#[]⟩, .string ⟨#[]⟩, .string ⟨#[]⟩, .string ⟨#[]⟩, .string ⟨#[]⟩]) (.array 8 9):=⟨by kernel_rfl,by kernel_rfl⟩
theorem Zia : TyOk Tryz.prog 33 12 192 (.agg #[.string ⟨#[]⟩, .string ⟨#[]⟩, .slice none 0 0, .string ⟨#[]⟩, .slice none 0 0, .slice none 0 0, .bool false, .slice none 0 0, .int .i64 0, .bool false, .bool false, .slice none 0 0]) (.struct #[⟨"Name", 9, 0, false, "", "", 0⟩, ⟨"Mail", 30, 1, false, "", "", 16⟩, ⟨"Pipelined", 4, 6, false, "", "", 120⟩, ⟨"Buffer", 26, 7, false, "", "", 128⟩, ⟨"Expected", 3, 8, false, "", "", 152⟩, ⟨"Whole", 4, 9, false, "", "", 160⟩, ⟨"Done", 4, 10, false, "", "", 161⟩, ⟨"Results", 31, 11, false, "", "", 168⟩]) := ⟨by kernel_rfl, by kernel_rfl⟩
theorem K1a : TyOk Tryz.prog 119 6 64 (.agg #[.int .i64 0, .string ⟨#[]⟩, .string ⟨#[]⟩, .int .i64 0, .int .i64 0, .bool false]) (.struct #[⟨"Verb", 3, 0, false, "", "", 0⟩, ⟨"Name", 9, 1, false, "", "", 8⟩, ⟨"Address", 9, 2, false, "", "", 24⟩, ⟨"Size", 3, 3, false, "", "", 40⟩, ⟨"Notify", 3, 4, false, "", "", 48⟩, ⟨"Last", 4, 5, false, "", "", 56⟩]) := ⟨by kernel_rfl, by kernel_rfl⟩
theorem ZXa : TyOk Tryz.prog 24 3 56 (.agg #[.string ⟨#[]⟩, .slice none 0 0, .string ⟨#[]⟩]) (.struct #[⟨"From", 9, 0, false, "", "", 0⟩, ⟨"To", 22, 1, false, "", "", 16⟩, ⟨"Id", 9, 2, false, "", "", 40⟩]) := ⟨by kernel_rfl, by kernel_rfl⟩
theorem kja : TyOk Tryz.prog 35 2 16 (.agg #[.int .i64 0, .int .i64 0]) (.struct #[⟨"Code", 3, 0, false, "", "", 0⟩, ⟨"Index", 3, 1, false, "", "", 8⟩]) := ⟨by kernel_rfl, by kernel_rfl⟩
theorem qha : TyOk Tryz.prog 88 2 32 (.agg #[.string ⟨#[]⟩, .string ⟨#[]⟩]) (.struct #[⟨"Name", 9, 0, false, "", "", 0⟩, ⟨"Value", 9, 1, false, "", "", 16⟩]) := ⟨by kernel_rfl, by kernel_rfl⟩
theorem WTa : TyOk Tryz.prog 30 5 104 (.agg #[.string ⟨#[]⟩, .slice none 0 0, .string ⟨#[]⟩, .slice none 0 0, .slice none 0 0]) (.struct #[⟨"Envelope", 24, 0, false, "", "", 0⟩, ⟨"Message", 28, 3, false, "", "", 56⟩]) := ⟨by kernel_rfl, by kernel_rfl⟩
theorem qna : TyOk Tryz.prog 28 2 48 (.agg #[.slice none 0 0, .slice none 0 0]) (.struct #[⟨"Fields", 25, 0, false, "", "", 0⟩, ⟨"Body", 26, 1, false, "", "", 24⟩]) := ⟨by kernel_rfl, by kernel_rfl⟩
theorem zVa : TyOk Tryz.prog 85 2 24 (.agg #[.string ⟨#[]⟩, .int .i64 0]) (.struct #[⟨"Address", 9, 0, false, "", "", 0⟩, ⟨"Notify", 3, 1, false, "", "", 16⟩]) := ⟨by kernel_rfl, by kernel_rfl⟩
theorem zHb : TyOk Tryz.prog 80 2 32 (.agg #[.int .i64 0, .slice none 0 0]) (.struct #[⟨"Code", 3, 0, false, "", "", 0⟩, ⟨"Lines", 76, 1, false, "", "", 8⟩]) := ⟨by kernel_rfl, by kernel_rfl⟩
theorem kYb:TyOk Tryz.prog 4 1 1 (.bool false) .bool:=⟨by kernel_rfl,by kernel_rfl⟩
theorem Vwa : TyOk Tryz.prog 69 15 248 (.agg #[.string ⟨#[]⟩, .string ⟨#[]⟩, .slice none 0 0, .string ⟨#[]⟩, .slice none 0 0, .slice none 0 0, .bool false, .slice none 0 0, .int .i64 0, .bool false, .bool false, .slice none 0 0, .slice none 0 0, .bool false, .slice none 0 0]) (.struct #[⟨"Client", 33, 0, true, "", "", 0⟩, ⟨"content", 26, 12, false, "", "posthouse/client", 192⟩, ⟨"chunk", 4, 13, false, "", "posthouse/client", 216⟩, ⟨"out", 26, 14, false, "", "posthouse/client", 224⟩]) := ⟨by kernel_rfl, by kernel_rfl⟩
theorem vFa : TyOk Tryz.prog 182 2 24 (.agg #[.int .i64 0, .string ⟨#[]⟩]) (.struct #[⟨"n", 3, 0, false, "", "posthouse/command", 0⟩, ⟨"word", 9, 1, false, "", "posthouse/command", 8⟩]) := ⟨by kernel_rfl, by kernel_rfl⟩
theorem ty_error : TyOk Tryz.prog 130 1 16 (.nilIface) (.interface #[("Error", 195)]) := ⟨by kernel_rfl, by kernel_rfl⟩
theorem qia:TyOk Tryz.prog 3 1 8 (.int .i64 0) (.int .i64):=⟨by kernel_rfl,by kernel_rfl⟩
theorem ty_int32:TyOk Tryz.prog 21 1 4 (.int .i32 0) (.int .i32):=⟨by kernel_rfl,by kernel_rfl⟩
theorem ZYa : TyOk Tryz.prog 50 13 216 (.agg #[.string ⟨#[]⟩, .string ⟨#[]⟩, .slice none 0 0, .string ⟨#[]⟩, .slice none 0 0, .slice none 0 0, .bool false, .slice none 0 0, .int .i64 0, .bool false, .bool false, .slice none 0 0, .slice none 0 0]) (.struct #[⟨"C", 33, 0, false, "", "", 0⟩, ⟨"Out", 26, 12, false, "", "", 192⟩]) := ⟨by kernel_rfl, by kernel_rfl⟩
theorem kOa:TyOk Tryz.prog 25 1 24 (.slice none 0 0) (.slice 88):=⟨by kernel_rfl,by kernel_rfl⟩
theorem zLa:TyOk Tryz.prog 22 1 24 (.slice none 0 0) (.slice 85):=⟨by kernel_rfl,by kernel_rfl⟩
theorem jpa:TyOk Tryz.prog 31 1 24 (.slice none 0 0) (.slice 3):=⟨by kernel_rfl,by kernel_rfl⟩
theorem zIb:TyOk Tryz.prog 97 1 24 (.slice none 0 0) (.slice 26):=⟨by kernel_rfl,by kernel_rfl⟩
theorem kva:TyOk Tryz.prog 76 1 24 (.slice none 0 0) (.slice 9):=⟨by kernel_rfl,by kernel_rfl⟩
theorem zka:TyOk Tryz.prog 26 1 24 (.slice none 0 0) (.slice 5):=⟨by kernel_rfl,by kernel_rfl⟩
theorem zDa:TyOk Tryz.prog 9 1 16 (.string ⟨#[]⟩) .string:=⟨by kernel_rfl,by kernel_rfl⟩
theorem zua:TyOk Tryz.prog 5 1 1 (.int .u8 0) (.int .u8):=⟨by kernel_rfl,by kernel_rfl⟩
def tab : Tab := [(183, ⟨6, 72, (.agg #[.int .i64 0, .string ⟨#[]⟩, .int .i64 0, .string ⟨#[]⟩, .int .i64 0, .string ⟨#[]⟩]), (.array 3 182), none⟩), (168, ⟨8, 128, (.agg #[.string ⟨#[]⟩, .string ⟨#[]⟩, .string ⟨#[]⟩, .string ⟨#[]⟩, .string ⟨#[]⟩, .string ⟨#[]⟩, .string ⟨#[]⟩, .string ⟨#[]⟩]), (.array 8 9), none⟩), (33, ⟨12, 192, (.agg #[.string ⟨#[]⟩, .string ⟨#[]⟩, .slice none 0 0, .string ⟨#[]⟩, .slice none 0 0, .slice none 0 0, .bool false, .slice none 0 0, .int .i64 0, .bool false, .bool false, .slice none 0 0]), (.struct #[⟨"Name", 9, 0, false, "", "", 0⟩, ⟨"Mail", 30, 1, false, "", "", 16⟩, ⟨"Pipelined", 4, 6, false, "", "", 120⟩, ⟨"Buffer", 26, 7, false, "", "", 128⟩, ⟨"Expected", 3, 8, false, "", "", 152⟩, ⟨"Whole", 4, 9, false, "", "", 160⟩, ⟨"Done", 4, 10, false, "", "", 161⟩, ⟨"Results", 31, 11, false, "", "", 168⟩]), (some #[(0, 1), (1, 5), (6, 1), (7, 1), (8, 1), (9, 1), (10, 1), (11, 1)])⟩), (119, ⟨6, 64, (.agg #[.int .i64 0, .string ⟨#[]⟩, .string ⟨#[]⟩, .int .i64 0, .int .i64 0, .bool false]), (.struct #[⟨"Verb", 3, 0, false, "", "", 0⟩, ⟨"Name", 9, 1, false, "", "", 8⟩, ⟨"Address", 9, 2, false, "", "", 24⟩, ⟨"Size", 3, 3, false, "", "", 40⟩, ⟨"Notify", 3, 4, false, "", "", 48⟩, ⟨"Last", 4, 5, false, "", "", 56⟩]), (some #[(0, 1), (1, 1), (2, 1), (3, 1), (4, 1), (5, 1)])⟩), (24, ⟨3, 56, (.agg #[.string ⟨#[]⟩, .slice none 0 0, .string ⟨#[]⟩]), (.struct #[⟨"From", 9, 0, false, "", "", 0⟩, ⟨"To", 22, 1, false, "", "", 16⟩, ⟨"Id", 9, 2, false, "", "", 40⟩]), (some #[(0, 1), (1, 1), (2, 1)])⟩), (35, ⟨2, 16, (.agg #[.int .i64 0, .int .i64 0]), (.struct #[⟨"Code", 3, 0, false, "", "", 0⟩, ⟨"Index", 3, 1, false, "", "", 8⟩]), (some #[(0, 1), (1, 1)])⟩), (88, ⟨2, 32, (.agg #[.string ⟨#[]⟩, .string ⟨#[]⟩]), (.struct #[⟨"Name", 9, 0, false, "", "", 0⟩, ⟨"Value", 9, 1, false, "", "", 16⟩]), (some #[(0, 1), (1, 1)])⟩), (30, ⟨5, 104, (.agg #[.string ⟨#[]⟩, .slice none 0 0, .string ⟨#[]⟩, .slice none 0 0, .slice none 0 0]), (.struct #[⟨"Envelope", 24, 0, false, "", "", 0⟩, ⟨"Message", 28, 3, false, "", "", 56⟩]), (some #[(0, 3), (3, 2)])⟩), (28, ⟨2, 48, (.agg #[.slice none 0 0, .slice none 0 0]), (.struct #[⟨"Fields", 25, 0, false, "", "", 0⟩, ⟨"Body", 26, 1, false, "", "", 24⟩]), (some #[(0, 1), (1, 1)])⟩), (85, ⟨2, 24, (.agg #[.string ⟨#[]⟩, .int .i64 0]), (.struct #[⟨"Address", 9, 0, false, "", "", 0⟩, ⟨"Notify", 3, 1, false, "", "", 16⟩]), (some #[(0, 1), (1, 1)])⟩), (80, ⟨2, 32, (.agg #[.int .i64 0, .slice none 0 0]), (.struct #[⟨"Code", 3, 0, false, "", "", 0⟩, ⟨"Lines", 76, 1, false, "", "", 8⟩]), (some #[(0, 1), (1, 1)])⟩), (4, ⟨1, 1, (.bool false), .bool, none⟩), (69, ⟨15, 248, (.agg #[.string ⟨#[]⟩, .string ⟨#[]⟩, .slice none 0 0, .string ⟨#[]⟩, .slice none 0 0, .slice none 0 0, .bool false, .slice none 0 0, .int .i64 0, .bool false, .bool false, .slice none 0 0, .slice none 0 0, .bool false, .slice none 0 0]), (.struct #[⟨"Client", 33, 0, true, "", "", 0⟩, ⟨"content", 26, 12, false, "", "posthouse/client", 192⟩, ⟨"chunk", 4, 13, false, "", "posthouse/client", 216⟩, ⟨"out", 26, 14, false, "", "posthouse/client", 224⟩]), (some #[(0, 12), (12, 1), (13, 1), (14, 1)])⟩), (182, ⟨2, 24, (.agg #[.int .i64 0, .string ⟨#[]⟩]), (.struct #[⟨"n", 3, 0, false, "", "posthouse/command", 0⟩, ⟨"word", 9, 1, false, "", "posthouse/command", 8⟩]), (some #[(0, 1), (1, 1)])⟩), (130, ⟨1, 16, (.nilIface), (.interface #[("Error", 195)]), none⟩), (3, ⟨1, 8, (.int .i64 0), (.int .i64), none⟩), (21, ⟨1, 4, (.int .i32 0), (.int .i32), none⟩), (50, ⟨13, 216, (.agg #[.string ⟨#[]⟩, .string ⟨#[]⟩, .slice none 0 0, .string ⟨#[]⟩, .slice none 0 0, .slice none 0 0, .bool false, .slice none 0 0, .int .i64 0, .bool false, .bool false, .slice none 0 0, .slice none 0 0]), (.struct #[⟨"C", 33, 0, false, "", "", 0⟩, ⟨"Out", 26, 12, false, "", "", 192⟩]), (some #[(0, 12), (12, 1)])⟩), (25, ⟨1, 24, (.slice none 0 0), (.slice 88), none⟩), (22, ⟨1, 24, (.slice none 0 0), (.slice 85), none⟩), (31, ⟨1, 24, (.slice none 0 0), (.slice 3), none⟩), (97, ⟨1, 24, (.slice none 0 0), (.slice 26), none⟩), (76, ⟨1, 24, (.slice none 0 0), (.slice 9), none⟩), (26, ⟨1, 24, (.slice none 0 0), (.slice 5), none⟩), (9, ⟨1, 16, (.string ⟨#[]⟩), .string, none⟩), (5, ⟨1, 1, (.int .u8 0), (.int .u8), none⟩)]
theorem tk:kYa Tryz.prog tab:=(q2a qKa (q2a ZWa (qQa Zia JUa (qQa K1a YFa (qQa ZXa WSa (qQa kja zEb (qQa qha zFb (qQa WTa kXb (qQa qna YGa (qQa zVa Wca (qQa zHb zGb (q2a kYb (qQa Vwa Vva (qQa vFa KMa (q2a ty_error (q2a qia (q2a ty_int32 (qQa ZYa ZVa (q2a kOa (q2a zLa (q2a jpa (q2a zIb (q2a kva (q2a zka (q2a zDa (q2a zua tab_nil))))))))))))))))))))))))))
end Go.Proofs.YtjnmamghadpedaaGreatDoor
namespace Go.Proofs.YtjnmamghadpedaaGreatDoor
open Go.RowKit
def zza.ok (x:zza):Prop:=ok64 x.Code∧ok64 x.Index
def zza.bk (x:zza):Nat:=(fun _=> 1) x.Code+(fun _=> 1) x.Index+1
instance:Inhabited zza:=⟨⟨default,default⟩⟩
def joa.ok (x:joa):Prop:=jha x.Address∧(okL jha) x.To
def joa.bk (x:joa):Nat:=(fun s=> s.length+1) x.Address+(bkL (fun s=> s.length+1)) x.To+1
instance:Inhabited joa:=⟨⟨default,default⟩⟩
def zca.ok (x:zca):Prop:=jha x.Address∧ok64 x.Notify
def zca.bk (x:zca):Nat:=(fun s=> s.length+1) x.Address+(fun _=> 1) x.Notify+1
instance:Inhabited zca:=⟨⟨default,default⟩⟩
def zKa.ok (x:zKa):Prop:=jha x.From∧(okL zca.ok) x.To∧jha x.Id
def zKa.bk (x:zKa):Nat:=(fun s=> s.length+1) x.From+(bkL zca.bk) x.To+(fun s=> s.length+1) x.Id+1
instance:Inhabited zKa:=⟨⟨default,default,default⟩⟩
def zga.ok (x:zga):Prop:=jha x.Name∧jha x.Value
def zga.bk (x:zga):Nat:=(fun s=> s.length+1) x.Name+(fun s=> s.length+1) x.Value+1
instance:Inhabited zga:=⟨⟨default,default⟩⟩
def zxa.ok (x:zxa):Prop:=(okL zga.ok) x.Fields∧(okL (fun _=> True)) x.Body
def zxa.bk (x:zxa):Nat:=(bkL zga.bk) x.Fields+(bkL (fun _=> 1)) x.Body+1
instance:Inhabited zxa:=⟨⟨default,default⟩⟩
def kea.ok (x:kea):Prop:=zKa.ok x.Envelope∧zxa.ok x.Message
def kea.bk (x:kea):Nat:=zKa.bk x.Envelope+zxa.bk x.Message+1
instance:Inhabited kea:=⟨⟨default,default⟩⟩
def Zha.ok (x:Zha):Prop:=jha x.Address∧(okL jha) x.To∧(fun _=> True) x.Keep
def Zha.bk (x:Zha):Nat:=(fun s=> s.length+1) x.Address+(bkL (fun s=> s.length+1)) x.To+(fun _=> 1) x.Keep+1
instance:Inhabited Zha:=⟨⟨default,default,default⟩⟩
def WPa.ok (x:WPa):Prop:=ok64 x.Number∧kea.ok x.Mail
def WPa.bk (x:WPa):Nat:=(fun _=> 1) x.Number+kea.bk x.Mail+1
instance:Inhabited WPa:=⟨⟨default,default⟩⟩
def kVb.ok (x:kVb):Prop:=jha x.Address∧jha x.Owner∧(fun _=> True) x.Open∧(okL jha) x.Subscribers∧(okL jha) x.Moderators∧(okL WPa.ok) x.Held∧ok64 x.Next
def kVb.bk (x:kVb):Nat:=(fun s=> s.length+1) x.Address+(fun s=> s.length+1) x.Owner+(fun _=> 1) x.Open+(bkL (fun s=> s.length+1)) x.Subscribers+(bkL (fun s=> s.length+1)) x.Moderators+(bkL WPa.bk) x.Held+(fun _=> 1) x.Next+1
instance:Inhabited kVb:=⟨⟨default,default,default,default,default,default,default⟩⟩
def kba.ok (x:kba):Prop:=ok64 x.Code∧(okL jha) x.Lines
def kba.bk (x:kba):Nat:=(fun _=> 1) x.Code+(bkL (fun s=> s.length+1)) x.Lines+1
instance:Inhabited kba:=⟨⟨default,default⟩⟩
def kWb.ok (x:kWb):Prop:=ok64 x.Year∧ok64 x.Month∧ok64 x.Day∧ok64 x.Hour∧ok64 x.Minute∧ok64 x.Second∧ok64 x.Zone
def kWb.bk (x:kWb):Nat:=(fun _=> 1) x.Year+(fun _=> 1) x.Month+(fun _=> 1) x.Day+(fun _=> 1) x.Hour+(fun _=> 1) x.Minute+(fun _=> 1) x.Second+(fun _=> 1) x.Zone+1
instance:Inhabited kWb:=⟨⟨default,default,default,default,default,default,default⟩⟩
def zta.ok (x:zta):Prop:=ok64 x.Verb∧jha x.Name∧jha x.Address∧ok64 x.Size∧ok64 x.Notify∧(fun _=> True) x.Last
def zta.bk (x:zta):Nat:=(fun _=> 1) x.Verb+(fun s=> s.length+1) x.Name+(fun s=> s.length+1) x.Address+(fun _=> 1) x.Size+(fun _=> 1) x.Notify+(fun _=> 1) x.Last+1
instance:Inhabited zta:=⟨⟨default,default,default,default,default,default⟩⟩
def zna.ok (x:zna):Prop:=ok64 x.n∧jha x.word
def zna.bk (x:zna):Nat:=(fun _=> 1) x.n+(fun s=> s.length+1) x.word+1
instance:Inhabited zna:=⟨⟨default,default⟩⟩
def WQa.ok (x:WQa):Prop:=jha x.Address∧ok64 x.Result
def WQa.bk (x:WQa):Nat:=(fun s=> s.length+1) x.Address+(fun _=> 1) x.Result+1
instance:Inhabited WQa:=⟨⟨default,default⟩⟩
def Qka.ok (x:Qka):Prop:=ok64 x.Kind∧jha x.Id∧(okL WQa.ok) x.Told
def Qka.bk (x:Qka):Nat:=(fun _=> 1) x.Kind+(fun s=> s.length+1) x.Id+(bkL WQa.bk) x.Told+1
instance:Inhabited Qka:=⟨⟨default,default,default⟩⟩
def v2a.ok (x:v2a):Prop:=ok64 x.kind∧ok64 x.result
def v2a.bk (x:v2a):Nat:=(fun _=> 1) x.kind+(fun _=> 1) x.result+1
instance:Inhabited v2a:=⟨⟨default,default⟩⟩
def zla.ok (x:zla):Prop:=jha x.Name∧kea.ok x.Mail∧(fun _=> True) x.Pipelined∧(okL (fun _=> True)) x.Buffer∧ok64 x.Expected∧(fun _=> True) x.Whole∧(fun _=> True) x.Done∧(okL ok64) x.Results
def zla.bk (x:zla):Nat:=(fun s=> s.length+1) x.Name+kea.bk x.Mail+(fun _=> 1) x.Pipelined+(bkL (fun _=> 1)) x.Buffer+(fun _=> 1) x.Expected+(fun _=> 1) x.Whole+(fun _=> 1) x.Done+(bkL (fun _=> 1)) x.Results+1
instance:Inhabited zla:=⟨⟨default,default,default,default,default,default,default,default⟩⟩
def zfa.ok (x:zfa):Prop:=zla.ok x.Client∧(okL (fun _=> True)) x.content∧(fun _=> True) x.chunk∧(okL (fun _=> True)) x.out
def zfa.bk (x:zfa):Nat:=zla.bk x.Client+(bkL (fun _=> 1)) x.content+(fun _=> 1) x.chunk+(bkL (fun _=> 1)) x.out+1
instance:Inhabited zfa:=⟨⟨default,default,default,default⟩⟩
def zea.ok (x:zea):Prop:=zla.ok x.C∧(okL (fun _=> True)) x.Out
def zea.bk (x:zea):Nat:=zla.bk x.C+(bkL (fun _=> 1)) x.Out+1
instance:Inhabited zea:=⟨⟨default,default⟩⟩
end Go.Proofs.YtjnmamghadpedaaGreatDoor
namespace Go.Proofs.YtjnmamghadpedaaGreatDoor
open Go.RowKit
set_option maxRecDepth 100000
theorem qSa:jga Tryz.prog 9 1 cS jha (fun s=> s.length+1):=opens_S zDa.u (by kernel_rfl)
theorem zJb:jga Tryz.prog 3 1 cI ok64 (fun _=> 1):=opens_I qia.u (by kernel_rfl)
theorem Wda:jga Tryz.prog 85 2 zca.pc zca.ok zca.bk:=⟨by kernel_rfl,fun _=> rfl,fun {H enc W fuel cs d} h=> by
 obtain ⟨xs,n,_,rfl,hl,hlen,hf⟩:=DataW.trod_struct zVa.u h
 have hl2:cs.length=2:=hl.trans (by kernel_rfl)
 match xs,hlen with
 | [y0,y1],_=>
  obtain ⟨x0,r0,o0,b0⟩:=qSa.op (show _=some y0 from hf 0 _ rfl)
  replace r0:RelC W _ (List.take (Tryz.prog.cellsOf 9) (List.drop 0 cs)):=r0
  rw [qSa.cells] at r0
  obtain ⟨x1,r1,o1,b1⟩:=zJb.op (show _=some y1 from hf 1 _ rfl)
  replace r1:RelC W _ (List.take (Tryz.prog.cellsOf 3) (List.drop 1 cs)):=r1
  rw [zJb.cells] at r1
  exact ⟨⟨x0,x1⟩,(k1a (off:=0) rfl r0 (k1a (off:=1) rfl r1 (Kya hl2))),⟨o0,o1⟩,by simp only [List.map,Rows.uptoBulk,Rows.uptoBulkAll,zca.bk];omega⟩⟩
theorem jqa:jga Tryz.prog 22 1 (cL zca.pc) (okL zca.ok) (bkL zca.bk):=JQa Wda rfl zLa.u (by kernel_rfl)
theorem ZZa:jga Tryz.prog 24 3 zKa.pc zKa.ok zKa.bk:=⟨by kernel_rfl,fun _=> rfl,fun {H enc W fuel cs d} h=> by
 obtain ⟨xs,n,_,rfl,hl,hlen,hf⟩:=DataW.trod_struct ZXa.u h
 have hl2:cs.length=3:=hl.trans (by kernel_rfl)
 match xs,hlen with
 | [y0,y1,y2],_=>
  obtain ⟨x0,r0,o0,b0⟩:=qSa.op (show _=some y0 from hf 0 _ rfl)
  replace r0:RelC W _ (List.take (Tryz.prog.cellsOf 9) (List.drop 0 cs)):=r0
  rw [qSa.cells] at r0
  obtain ⟨x1,r1,o1,b1⟩:=jqa.op (show _=some y1 from hf 1 _ rfl)
  replace r1:RelC W _ (List.take (Tryz.prog.cellsOf 22) (List.drop 1 cs)):=r1
  rw [jqa.cells] at r1
  obtain ⟨x2,r2,o2,b2⟩:=qSa.op (show _=some y2 from hf 2 _ rfl)
  replace r2:RelC W _ (List.take (Tryz.prog.cellsOf 9) (List.drop 2 cs)):=r2
  rw [qSa.cells] at r2
  exact ⟨⟨x0,x1,x2⟩,(k1a (off:=0) rfl r0 (k1a (off:=1) rfl r1 (k1a (off:=2) rfl r2 (Kya hl2)))),⟨o0,o1,o2⟩,by simp only [List.map,Rows.uptoBulk,Rows.uptoBulkAll,zKa.bk];omega⟩⟩
theorem zKb:jga Tryz.prog 88 2 zga.pc zga.ok zga.bk:=⟨by kernel_rfl,fun _=> rfl,fun {H enc W fuel cs d} h=> by
 obtain ⟨xs,n,_,rfl,hl,hlen,hf⟩:=DataW.trod_struct qha.u h
 have hl2:cs.length=2:=hl.trans (by kernel_rfl)
 match xs,hlen with
 | [y0,y1],_=>
  obtain ⟨x0,r0,o0,b0⟩:=qSa.op (show _=some y0 from hf 0 _ rfl)
  replace r0:RelC W _ (List.take (Tryz.prog.cellsOf 9) (List.drop 0 cs)):=r0
  rw [qSa.cells] at r0
  obtain ⟨x1,r1,o1,b1⟩:=qSa.op (show _=some y1 from hf 1 _ rfl)
  replace r1:RelC W _ (List.take (Tryz.prog.cellsOf 9) (List.drop 1 cs)):=r1
  rw [qSa.cells] at r1
  exact ⟨⟨x0,x1⟩,(k1a (off:=0) rfl r0 (k1a (off:=1) rfl r1 (Kya hl2))),⟨o0,o1⟩,by simp only [List.map,Rows.uptoBulk,Rows.uptoBulkAll,zga.bk];omega⟩⟩
theorem K2a:jga Tryz.prog 25 1 (cL zga.pc) (okL zga.ok) (bkL zga.bk):=JQa zKb rfl kOa.u (by kernel_rfl)
theorem op_uint8:jga Tryz.prog 5 1 cU (fun _=> True) (fun _=> 1):=opens_U zua.u (by kernel_rfl)
theorem jOa:jga Tryz.prog 26 1 (cL cU) (okL (fun _=> True)) (bkL (fun _=> 1)):=JQa op_uint8 rfl zka.u (by kernel_rfl)
theorem K3a:jga Tryz.prog 28 2 zxa.pc zxa.ok zxa.bk:=⟨by kernel_rfl,fun _=> rfl,fun {H enc W fuel cs d} h=> by
 obtain ⟨xs,n,_,rfl,hl,hlen,hf⟩:=DataW.trod_struct qna.u h
 have hl2:cs.length=2:=hl.trans (by kernel_rfl)
 match xs,hlen with
 | [y0,y1],_=>
  obtain ⟨x0,r0,o0,b0⟩:=K2a.op (show _=some y0 from hf 0 _ rfl)
  replace r0:RelC W _ (List.take (Tryz.prog.cellsOf 25) (List.drop 0 cs)):=r0
  rw [K2a.cells] at r0
  obtain ⟨x1,r1,o1,b1⟩:=jOa.op (show _=some y1 from hf 1 _ rfl)
  replace r1:RelC W _ (List.take (Tryz.prog.cellsOf 26) (List.drop 1 cs)):=r1
  rw [jOa.cells] at r1
  exact ⟨⟨x0,x1⟩,(k1a (off:=0) rfl r0 (k1a (off:=1) rfl r1 (Kya hl2))),⟨o0,o1⟩,by simp only [List.map,Rows.uptoBulk,Rows.uptoBulkAll,zxa.bk];omega⟩⟩
theorem WUa:jga Tryz.prog 30 5 kea.pc kea.ok kea.bk:=⟨by kernel_rfl,fun _=> rfl,fun {H enc W fuel cs d} h=> by
 obtain ⟨xs,n,_,rfl,hl,hlen,hf⟩:=DataW.trod_struct WTa.u h
 have hl2:cs.length=5:=hl.trans (by kernel_rfl)
 match xs,hlen with
 | [y0,y1],_=>
  obtain ⟨x0,r0,o0,b0⟩:=ZZa.op (show _=some y0 from hf 0 _ rfl)
  replace r0:RelC W _ (List.take (Tryz.prog.cellsOf 24) (List.drop 0 cs)):=r0
  rw [ZZa.cells] at r0
  obtain ⟨x1,r1,o1,b1⟩:=K3a.op (show _=some y1 from hf 1 _ rfl)
  replace r1:RelC W _ (List.take (Tryz.prog.cellsOf 28) (List.drop 3 cs)):=r1
  rw [K3a.cells] at r1
  exact ⟨⟨x0,x1⟩,(k1a (off:=0) rfl r0 (k1a (off:=3) rfl r1 (Kya hl2))),⟨o0,o1⟩,by simp only [List.map,Rows.uptoBulk,Rows.uptoBulkAll,kea.bk];omega⟩⟩
theorem Vxa:jga Tryz.prog 4 1 cB (fun _=> True) (fun _=> 1):=opens_B kYb.u (by kernel_rfl)
theorem qCb:jga Tryz.prog 31 1 (cL cI) (okL ok64) (bkL (fun _=> 1)):=JQa zJb rfl jpa.u (by kernel_rfl)
theorem JVa:jga Tryz.prog 33 12 zla.pc zla.ok zla.bk:=⟨by kernel_rfl,fun _=> rfl,fun {H enc W fuel cs d} h=> by
 obtain ⟨xs,n,_,rfl,hl,hlen,hf⟩:=DataW.trod_struct Zia.u h
 have hl2:cs.length=12:=hl.trans (by kernel_rfl)
 match xs,hlen with
 | [y0,y1,y2,y3,y4,y5,y6,y7],_=>
  obtain ⟨x0,r0,o0,b0⟩:=qSa.op (show _=some y0 from hf 0 _ rfl)
  replace r0:RelC W _ (List.take (Tryz.prog.cellsOf 9) (List.drop 0 cs)):=r0
  rw [qSa.cells] at r0
  obtain ⟨x1,r1,o1,b1⟩:=WUa.op (show _=some y1 from hf 1 _ rfl)
  replace r1:RelC W _ (List.take (Tryz.prog.cellsOf 30) (List.drop 1 cs)):=r1
  rw [WUa.cells] at r1
  obtain ⟨x2,r2,o2,b2⟩:=Vxa.op (show _=some y2 from hf 2 _ rfl)
  replace r2:RelC W _ (List.take (Tryz.prog.cellsOf 4) (List.drop 6 cs)):=r2
  rw [Vxa.cells] at r2
  obtain ⟨x3,r3,o3,b3⟩:=jOa.op (show _=some y3 from hf 3 _ rfl)
  replace r3:RelC W _ (List.take (Tryz.prog.cellsOf 26) (List.drop 7 cs)):=r3
  rw [jOa.cells] at r3
  obtain ⟨x4,r4,o4,b4⟩:=zJb.op (show _=some y4 from hf 4 _ rfl)
  replace r4:RelC W _ (List.take (Tryz.prog.cellsOf 3) (List.drop 8 cs)):=r4
  rw [zJb.cells] at r4
  obtain ⟨x5,r5,o5,b5⟩:=Vxa.op (show _=some y5 from hf 5 _ rfl)
  replace r5:RelC W _ (List.take (Tryz.prog.cellsOf 4) (List.drop 9 cs)):=r5
  rw [Vxa.cells] at r5
  obtain ⟨x6,r6,o6,b6⟩:=Vxa.op (show _=some y6 from hf 6 _ rfl)
  replace r6:RelC W _ (List.take (Tryz.prog.cellsOf 4) (List.drop 10 cs)):=r6
  rw [Vxa.cells] at r6
  obtain ⟨x7,r7,o7,b7⟩:=qCb.op (show _=some y7 from hf 7 _ rfl)
  replace r7:RelC W _ (List.take (Tryz.prog.cellsOf 31) (List.drop 11 cs)):=r7
  rw [qCb.cells] at r7
  exact ⟨⟨x0,x1,x2,x3,x4,x5,x6,x7⟩,(k1a (off:=0) rfl r0 (k1a (off:=1) rfl r1 (k1a (off:=6) rfl r2 (k1a (off:=7) rfl r3 (k1a (off:=8) rfl r4 (k1a (off:=9) rfl r5 (k1a (off:=10) rfl r6 (k1a (off:=11) rfl r7 (Kya hl2))))))))),⟨o0,o1,o2,o3,o4,o5,o6,o7⟩,by simp only [List.map,Rows.uptoBulk,Rows.uptoBulkAll,zla.bk];omega⟩⟩
end Go.Proofs.YtjnmamghadpedaaGreatDoor
namespace Go.Proofs.YtjnmamghadpedaaGreatDoor
open Go.RowKit
set_option maxRecDepth 100000
set_option maxHeartbeats 40000000
def R_In (a0:Int) (a1:Int) (a2:Int):Option Bool:=
 ((bif decide (a1≤a0) then some (decide (a0≤a2)) else some false):Option Bool).bind fun (j1:Bool)=> some j1
def R_At (a0:Int) (a1:Int):Option zza:=
 some ((zza.mk a0 a1))
def qza (a0:UInt8):Option Bool:=
 ((R_In ((a0.toNat:Int)) 97 122).bind fun v2=> (bif v2 then some true else (R_In ((a0.toNat:Int)) 65 90).bind fun v5=> (bif v5 then some true else (R_In ((a0.toNat:Int)) 48 57).bind fun v8=> some v8)):Option Bool).bind fun (j1:Bool)=> some j1
def QOa (a0:Str) (s1:Int):Option (Step Int (Unit ⊕ Int)):=
 (bif decide (s1 < (a0.length:Int)) then (idx a0 s1).bind fun v7=> (bif ((v7.toNat:Int)==64) then some (.out (.inr s1)) else some (.cont (w64 (s1+1)))) else some (.out (.inl (()))))
noncomputable def zLb (a0:Str):Option Int:=
 (iter (QOa a0) 0).bind (Sum.elim (fun b2=> some ((a0.length:Int))) (fun b3=> some b3))
def qLa (a0:Str) (s1:Int):Option (Step Int (Unit ⊕ Bool)):=
 (bif decide (s1 < (a0.length:Int)) then (idx a0 s1).bind fun v7=> ((idx a0 s1).bind fun v10=> (bif ((v10.toNat:Int)==46) then (bif (s1==0) then some true else (bif (s1==(w64 ((a0.length:Int) - 1))) then some true else (idx a0 ((w64 (s1 - 1)))).bind fun v15=> some (((v15.toNat:Int)==46)))) else some false):Option Bool).bind fun (j9:Bool)=> (bif j9 then some (.out (.inr false)) else ((R_In ((v7.toNat:Int)) 97 122).bind fun v19=> (bif (!v19) then (R_In ((v7.toNat:Int)) 48 57).bind fun v22=> (bif (!v22) then (idx a0 s1).bind fun v25=> (bif ((v25.toNat:Int) !=45) then (idx a0 s1).bind fun v28=> some (((v28.toNat:Int) !=46)) else some false) else some false) else some false):Option Bool).bind fun (j18:Bool)=> (bif j18 then some (.out (.inr false)) else some (.cont (w64 (s1+1))))) else some (.out (.inl (()))))
noncomputable def jPa (a0:Str):Option Bool:=
 (iter (qLa a0) 0).bind (Sum.elim (fun b2=> (R_In ((a0.length:Int)) 1 60).bind fun v31=> some v31) (fun b3=> some b3))
def vJa (a0:Str) (v1:Int) (s3:Int):Option (Step Int (Unit ⊕ Bool)):=
 (bif decide (s3 < v1) then (idx a0 s3).bind fun v9=> ((qza v9).bind fun v12=> (bif (!v12) then (bif ((v9.toNat:Int) !=45) then (bif ((v9.toNat:Int) !=95) then (bif ((v9.toNat:Int) !=46) then (bif ((v9.toNat:Int) !=43) then some (((v9.toNat:Int) !=61)) else some false) else some false) else some false) else some false) else some false):Option Bool).bind fun (j11:Bool)=> (bif j11 then some (.out (.inr false)) else some (.cont (w64 (s3+1)))) else some (.out (.inl (()))))
noncomputable def wMa (a0:Str):Option Bool:=
 (zLb a0).bind fun v1=> (iter (vJa a0 v1) 0).bind (Sum.elim (fun b4=> ((R_In v1 1 60).bind fun v21=> (bif v21 then (bif decide (v1 < (a0.length:Int)) then (cut a0 ((w64 (v1+1))) ((a0.length:Int))).bind fun v25=> (jPa v25).bind fun v27=> some v27 else some false) else some false):Option Bool).bind fun (j20:Bool)=> some j20) (fun b5=> some b5))
def zAa (a0:Int) (a1:Int):Option zza:=
 some ((zza.mk a0 a1))
def z7a:Option zza:=
 some ((zza.mk 0 0))
def kka (a0:zza):Option Bool:=
 some ((a0.Code !=0))
def wda (a0:UInt8):Option Bool:=
 ((bif decide (97≤(a0.toNat:Int)) then (bif decide ((a0.toNat:Int)≤122) then some true else (bif decide (65≤(a0.toNat:Int)) then (bif decide ((a0.toNat:Int)≤90) then some true else (bif decide (48≤(a0.toNat:Int)) then some (decide ((a0.toNat:Int)≤57)) else some false)) else (bif decide (48≤(a0.toNat:Int)) then some (decide ((a0.toNat:Int)≤57)) else some false))) else (bif decide (65≤(a0.toNat:Int)) then (bif decide ((a0.toNat:Int)≤90) then some true else (bif decide (48≤(a0.toNat:Int)) then some (decide ((a0.toNat:Int)≤57)) else some false)) else (bif decide (48≤(a0.toNat:Int)) then some (decide ((a0.toNat:Int)≤57)) else some false))):Option Bool).bind fun (j1:Bool)=> some j1
def kIa (a0:List UInt8) (s1:Int × Int × (List Str)):Option (Step (Int × Int × (List Str)) (Int × (List Str))):=
 (bif decide (s1.2.1 < (a0.length:Int)) then (((idx a0 s1.2.1).bind fun v7=> (bif ((v7.toNat:Int)==10) then (idx a0 ((w64 (s1.2.1 - 1)))).bind fun v10=> (bif ((v10.toNat:Int)==13) then some (decide (s1.1 < s1.2.1)) else some false) else some false):Option Bool).bind fun (j6:Bool)=> (bif j6 then (cut a0 s1.1 ((w64 (s1.2.1 - 1)))).bind fun v14=> (app 8796093022208 s1.2.2 (([v14]:List Str))).bind fun v16=> some (((w64 (s1.2.1+1)),v16)) else some ((s1.1,s1.2.2))):Option (Int × (List Str))).bind fun (j5:Int × (List Str))=> some (.cont (j5.1,(w64 (s1.2.1+1)),j5.2)) else some (.out ((s1.1,s1.2.2))))
noncomputable def Vya (a0:List UInt8):Option ((List Str) × (List UInt8)):=
 (iter (kIa a0) ((0,1,([]:List Str)))).bind fun b2=> (cut a0 b2.1 ((a0.length:Int))).bind fun v18=> some ((b2.2,v18))
def vea (a0:List UInt8) (a1:List UInt8):Option Bool:=
 some ((a0==a1))
def k9a (a0:List UInt8) (a1:List UInt8):Option Bool:=
 ((bif decide ((a1.length:Int)≤(a0.length:Int)) then (cut a0 0 ((a1.length:Int))).bind fun v3=> (vea v3 a1).bind fun v5=> some v5 else some false):Option Bool).bind fun (j1:Bool)=> some j1
def kRa (a0:List UInt8) (a1:List UInt8):Option Bool:=
 ((bif decide ((a1.length:Int)≤(a0.length:Int)) then (cut a0 ((w64 ((a0.length:Int) - (a1.length:Int)))) ((a0.length:Int))).bind fun v3=> (vea v3 a1).bind fun v5=> some v5 else some false):Option Bool).bind fun (j1:Bool)=> some j1
end Go.Proofs.YtjnmamghadpedaaGreatDoor
namespace Go.Proofs.YtjnmamghadpedaaGreatDoor
open Go.RowKit
def vfa (a b:List UInt8):Option Int:=if a.length < 4294967281∧b.length=2 then some (Lib.index a b) else none
def z3a (s:Str) (c:UInt8):Option Int:=some (Lib.indexByte s c)
def kTa (s t:Str):Option Bool:=if s.length < 4294967281 then some (Lib.contains s t) else none
def v3a (s t:Str):Option (Str × Str × Bool):=if s.length < 4294967281 then some (Lib.cut s t) else none
end Go.Proofs.YtjnmamghadpedaaGreatDoor
namespace Go.Proofs.YtjnmamghadpedaaGreatDoor
open Go.RowKit
set_option maxRecDepth 100000
set_option maxHeartbeats 40000000
def kDa (a0:Int):Option Bool:=
 ((bif decide (0≤a0) then some (decide (a0 < 55296)) else some false):Option Bool).bind fun (j1:Bool)=> (bif j1 then some true else ((bif decide (57343 < a0) then some (decide (a0≤1114111)) else some false):Option Bool).bind fun (j4:Bool)=> (bif j4 then some true else some false))
def qra (a0:Str) (s7:Nat):Option (Step Nat (Unit ⊕ Int)):=
 (bif decide (s7 < a0.length) then (bif ((K0a a0 s7)==65533) then some (.out (.inr (((s7:Nat):Int)))) else some (.cont (s7+jNa a0 s7))) else some (.out (.inl (()))))
def yka (a0:Str) (a1:Int) (j23:Int × Int) (s36:Int):Option (Step Int Unit):=
 (bif decide (s36 < (((w0a a1)).length:Int)) then (idx a0 ((w64 (j23.2 - s36)))).bind fun v40=> (idx ((w0a a1)) ((w64 (j23.1 - s36)))).bind fun v42=> (bif ((v40.toNat:Int) !=(v42.toNat:Int)) then none else some (.cont (w64 (s36+1)))) else some (.out (())))
noncomputable def qsa (a0:Str) (a1:Int) (j23:Int × Int):Option (Step Int (Unit ⊕ Int)):=
 (iter (yka a0 a1 j23) 1).bind fun b37=> some (.out (.inr ((w64 (j23.2 - j23.1)))))
noncomputable def qta (a0:Str) (a1:Int) (s17:Int):Option (Step Int (Unit ⊕ Int)):=
 (bif decide (s17 < (a0.length:Int)) then (idx a0 s17).bind fun v24=> (idx ((w0a a1)) ((w64 ((((w0a a1)).length:Int) - 1)))).bind fun v26=> (bif ((v24.toNat:Int) !=(v26.toNat:Int)) then (cut a0 ((w64 (s17+1))) ((a0.length:Int))).bind fun v29=> (idx ((w0a a1)) ((w64 ((((w0a a1)).length:Int) - 1)))).bind fun v31=> (z3a v29 v31).bind fun v33=> (bif decide (v33 < 0) then some (.out (.inr ((-1)))) else (qsa a0 a1 ((w64 ((((w0a a1)).length:Int) - 1)),(w64 (s17+(w64 (v33+1))))))) else (qsa a0 a1 ((w64 ((((w0a a1)).length:Int) - 1)),s17))) else some (.out (.inl (()))))
noncomputable def kta (a0:Str) (a1:Int):Option Int:=
 ((bif decide (0≤a1) then some (decide (a1 < 128)) else some false):Option Bool).bind fun (j1:Bool)=> (bif j1 then (z3a a0 ((toU8 a1))).bind fun v4=> some v4 else (bif (a1==65533) then (iter (qra a0) 0).bind (Sum.elim (fun b8=> some ((-1))) (fun b9=> some b9)) else (kDa a1).bind fun v14=> (bif (!v14) then some ((-1)) else (iter (qta a0 a1) ((w64 ((((w0a a1)).length:Int) - 1)))).bind (Sum.elim (fun b18=> some ((-1))) (fun b19=> some b19)))))
def zTa (a0:Int):Option Bool:=
 some (decide (8 < a0))
noncomputable def qua (a0:Str) (a1:Str) (s12:Nat):Option (Step Nat (Unit ⊕ Int)):=
 (bif decide (s12 < a0.length) then (kta a1 ((K0a a0 s12))).bind fun v18=> (bif decide (0≤v18) then some (.out (.inr (((s12:Nat):Int)))) else some (.cont (s12+jNa a0 s12))) else some (.out (.inl (()))))
noncomputable def vua (a0:Str) (a1:Str):Option Int:=
 (bif (a1==([]:Str)) then some ((-1)) else (bif ((a1.length:Int)==1) then (idx a1 0).bind fun v3=> ((bif decide (128≤(v3.toNat:Int)) then some 65533 else some ((v3.toNat:Int))):Option Int).bind fun (j5:Int)=> (kta a0 j5).bind fun v7=> some v7 else (zTa ((a0.length:Int))).bind fun v9=> (bif v9 then none else (iter (qua a0 a1) 0).bind (Sum.elim (fun b13=> some ((-1))) (fun b14=> some b14)))))
end Go.Proofs.YtjnmamghadpedaaGreatDoor
namespace Go.Proofs.YtjnmamghadpedaaGreatDoor
open Go.RowKit
def Jaa (t:Str):Bool:=t.all fun c=> decide (c.toNat < 128)
def qea (s t:Str):Option Int:=if s.length < 4294967281∧t.length < 4294967281∧2≤t.length∧Jaa t=true then some (Lib.indexAny s t) else none
end Go.Proofs.YtjnmamghadpedaaGreatDoor
namespace Go.Proofs.YtjnmamghadpedaaGreatDoor
open Go.RowKit
set_option maxRecDepth 100000
set_option maxHeartbeats 40000000
def k3a (a0:List UInt8) (s11:Int × (List UInt8)):Option (Step (Int × (List UInt8)) (List UInt8)):=
 (cut a0 s11.1 ((a0.length:Int))).bind fun v14=> (vfa v14 (([(13:UInt8),(10:UInt8)]:List UInt8))).bind fun v16=> ((bif decide (v16 < 0) then some ((true,s11.2)) else (cut a0 s11.1 ((w64 (s11.1+v16)))).bind fun v20=> ((k9a v20 (([(46:UInt8)]:List UInt8))).bind fun v23=> (bif v23 then (app 140737488355328 s11.2 (([(46:UInt8)]:List UInt8))).bind fun v26=> some v26 else some s11.2):Option (List UInt8)).bind fun (j22:List UInt8)=> (app 140737488355328 j22 v20).bind fun v28=> (app 140737488355328 v28 (([13,10]:Str))).bind fun v30=> some ((false,v30))):Option (Bool × (List UInt8))).bind fun (j18:Bool × (List UInt8))=> (bif j18.1 then some (.out j18.2) else some (.cont ((w64 (s11.1+(w64 (v16+2)))),j18.2)))
noncomputable def v4a (a0:List UInt8):Option ((List UInt8) × zza):=
 (bif decide (12000 < (a0.length:Int)) then (zAa 1 ((-1))).bind fun v2=> some ((([]:List UInt8),v2)) else ((bif decide (0 < (a0.length:Int)) then (kRa a0 (([(13:UInt8),(10:UInt8)]:List UInt8))).bind fun v6=> some ((!v6)) else some false):Option Bool).bind fun (j4:Bool)=> (bif j4 then (zAa 5 ((-2))).bind fun v9=> some ((([]:List UInt8),v9)) else (iter (k3a a0) ((0,([]:List UInt8)))).bind fun b12=> (app 140737488355328 b12 (([46,13,10]:Str))).bind fun v33=> (z7a).bind fun v35=> some ((v33,v35))))
end Go.Proofs.YtjnmamghadpedaaGreatDoor
namespace Go.Proofs.YtjnmamghadpedaaGreatDoor
open Go.RowKit
set_option maxRecDepth 100000
set_option maxHeartbeats 40000000
end Go.Proofs.YtjnmamghadpedaaGreatDoor
namespace Go.Proofs.YtjnmamghadpedaaGreatDoor
open Go.RowKit
set_option maxRecDepth 100000
set_option maxHeartbeats 40000000
def QPa (a0:List UInt8) (s1:Int × Int × (List Str)):Option (Step (Int × Int × (List Str)) (Int × (List Str))):=
 (bif decide (s1.2.1 < (a0.length:Int)) then (((idx a0 s1.2.1).bind fun v7=> (bif ((v7.toNat:Int)==10) then (idx a0 ((w64 (s1.2.1 - 1)))).bind fun v10=> (bif ((v10.toNat:Int)==13) then some (decide (s1.1 < s1.2.1)) else some false) else some false):Option Bool).bind fun (j6:Bool)=> (bif j6 then (cut a0 s1.1 ((w64 (s1.2.1 - 1)))).bind fun v14=> (app 8796093022208 s1.2.2 (([v14]:List Str))).bind fun v16=> some (((w64 (s1.2.1+1)),v16)) else some ((s1.1,s1.2.2))):Option (Int × (List Str))).bind fun (j5:Int × (List Str))=> some (.cont (j5.1,(w64 (s1.2.1+1)),j5.2)) else some (.out ((s1.1,s1.2.2))))
def Z0a (v20:List Str) (s22:Int × (List UInt8)):Option (Step (Int × (List UInt8)) (List UInt8)):=
 (bif decide (s22.1 < (v20.length:Int)) then ((((idx v20 s22.1).bind fun v29=> (bif decide (0 < (v29.length:Int)) then (idx v20 s22.1).bind fun v32=> (idx v32 0).bind fun v34=> some (((v34.toNat:Int)==46)) else some false):Option Bool).bind fun (j28:Bool)=> (bif j28 then (app 140737488355328 s22.2 (([(46:UInt8)]:List UInt8))).bind fun v37=> some v37 else some s22.2):Option (List UInt8)).bind fun (j27:List UInt8)=> (idx v20 s22.1).bind fun v39=> (app 140737488355328 j27 v39).bind fun v41=> (bif decide ((w64 (s22.1+1)) < (v20.length:Int)) then (app 140737488355328 v41 (([(13:UInt8),(10:UInt8)]:List UInt8))).bind fun v44=> some v44 else some v41):Option (List UInt8)).bind fun (j26:List UInt8)=> some (.cont ((w64 (s22.1+1)),j26)) else some (.out s22.2))
noncomputable def Jba (a0:List UInt8):Option (List UInt8):=
 (iter (QPa a0) ((0,1,([]:List Str)))).bind fun b2=> (cut a0 b2.1 ((a0.length:Int))).bind fun v18=> (app 8796093022208 b2.2 (([v18]:List Str))).bind fun v20=> (iter (Z0a v20) ((0,([]:List UInt8)))).bind fun b23=> (app 140737488355328 b23 (([(46:UInt8),(13:UInt8),(10:UInt8)]:List UInt8))).bind fun v46=> some v46
end Go.Proofs.YtjnmamghadpedaaGreatDoor
namespace Go.Proofs.YtjnmamghadpedaaGreatDoor
open Go.RowKit
set_option maxRecDepth 100000
set_option maxHeartbeats 40000000
def kla (a0:Str) (a1:Str):Option Bool:=
 ((bif decide ((a1.length:Int)≤(a0.length:Int)) then (cut a0 0 ((a1.length:Int))).bind fun v3=> some ((v3==a1)) else some false):Option Bool).bind fun (j1:Bool)=> some j1
def kJa (a0:Str) (a1:Str):Option Bool:=
 (kla a0 a1).bind fun v1=> some v1
def kma (a0:Str) (a1:Str):Option Bool:=
 ((bif decide ((a1.length:Int)≤(a0.length:Int)) then (cut a0 ((w64 ((a0.length:Int) - (a1.length:Int)))) ((a0.length:Int))).bind fun v3=> some ((v3==a1)) else some false):Option Bool).bind fun (j1:Bool)=> some j1
def kKa (a0:Str) (a1:Str):Option Bool:=
 (kma a0 a1).bind fun v1=> some v1
def qja (a0:Str) (s5:Int):Option (Step Int (Unit ⊕ Unit)):=
 (bif decide (s5 < (a0.length:Int)) then (idx a0 s5).bind fun v11=> ((bif decide (97≤(v11.toNat:Int)) then (bif decide ((v11.toNat:Int)≤122) then some true else (bif decide (48≤(v11.toNat:Int)) then (bif decide ((v11.toNat:Int)≤57) then some true else (bif ((v11.toNat:Int)==45) then some true else some (((v11.toNat:Int)==46)))) else (bif ((v11.toNat:Int)==45) then some true else some (((v11.toNat:Int)==46))))) else (bif decide (48≤(v11.toNat:Int)) then (bif decide ((v11.toNat:Int)≤57) then some true else (bif ((v11.toNat:Int)==45) then some true else some (((v11.toNat:Int)==46)))) else (bif ((v11.toNat:Int)==45) then some true else some (((v11.toNat:Int)==46))))):Option Bool).bind fun (j13:Bool)=> (bif (!j13) then some (.out (.inr (()))) else some (.cont (w64 (s5+1)))) else some (.out (.inl (()))))
noncomputable def vga (a0:Str):Option Bool:=
 ((bif (a0 !=([]:Str)) then (bif decide ((a0.length:Int)≤60) then ((iter (qja a0) 0).bind (Sum.elim (fun b6=> some true) (fun b7=> some false)):Option Bool).bind fun (j4:Bool)=> (bif j4 then (kJa a0 (([46]:Str))).bind fun v26=> (bif (!v26) then (kKa a0 (([46]:Str))).bind fun v29=> (bif (!v29) then (kTa a0 (([46,46]:Str))).bind fun v32=> some ((!v32)) else some false) else some false) else some false) else some false) else some false):Option Bool).bind fun (j1:Bool)=> some j1
def qAa (v1:Str × Str × Bool) (s8:Int):Option (Step Int (Unit ⊕ Unit)):=
 (bif decide (s8 < (v1.1.length:Int)) then (idx v1.1 s8).bind fun v14=> ((wda v14).bind fun v17=> (bif v17 then some true else (z3a (([45,95,46,43,61]:Str)) v14).bind fun v20=> some (decide (0≤v20))):Option Bool).bind fun (j16:Bool)=> (bif (!j16) then some (.out (.inr (()))) else some (.cont (w64 (s8+1)))) else some (.out (.inl (()))))
noncomputable def vKa (a0:Str):Option (Str × Str × Bool):=
 (v3a a0 (([64]:Str))).bind fun v1=> ((bif v1.2.2 then (bif (v1.1 !=([]:Str)) then (bif decide ((v1.1.length:Int)≤60) then ((iter (qAa v1) 0).bind (Sum.elim (fun b9=> some true) (fun b10=> some false)):Option Bool).bind fun (j7:Bool)=> (bif j7 then (vga v1.2.1).bind fun v24=> some v24 else some false) else some false) else some false) else some false):Option Bool).bind fun (j3:Bool)=> some ((v1.1,v1.2.1,j3))
noncomputable def kUa (a0:Str):Option Bool:=
 (vKa a0).bind fun v1=> some v1.2.2
end Go.Proofs.YtjnmamghadpedaaGreatDoor
namespace Go.Proofs.YtjnmamghadpedaaGreatDoor
open Go.RowKit
set_option maxRecDepth 100000
set_option maxHeartbeats 40000000
end Go.Proofs.YtjnmamghadpedaaGreatDoor
namespace Go.Proofs.YtjnmamghadpedaaGreatDoor
open Go.RowKit
set_option maxRecDepth 100000
set_option maxHeartbeats 40000000
def Zja (a0:Str) (s1:Int):Option (Step Int (Unit ⊕ Bool)):=
 (bif decide (s1 < (a0.length:Int)) then ((idx a0 s1).bind fun v8=> (qza v8).bind fun v10=> (bif (!v10) then (idx a0 s1).bind fun v13=> (bif ((v13.toNat:Int) !=45) then (idx a0 s1).bind fun v16=> (bif ((v16.toNat:Int) !=95) then (idx a0 s1).bind fun v19=> some (((v19.toNat:Int) !=46)) else some false) else some false) else some false):Option Bool).bind fun (j7:Bool)=> (bif j7 then some (.out (.inr false)) else some (.cont (w64 (s1+1)))) else some (.out (.inl (()))))
noncomputable def Kza (a0:Str):Option Bool:=
 (iter (Zja a0) 0).bind (Sum.elim (fun b2=> (R_In ((a0.length:Int)) 1 60).bind fun v22=> some v22) (fun b3=> some b3))
def KAa (a0:List zca) (a1:Str) (s1:Int):Option (Step Int (Unit ⊕ Int)):=
 (bif decide (s1 < (a0.length:Int)) then (idx a0 s1).bind fun v7=> (bif (v7.Address==a1) then some (.out (.inr s1)) else some (.cont (w64 (s1+1)))) else some (.out (.inl (()))))
noncomputable def WVa (a0:List zca) (a1:Str):Option Int:=
 (iter (KAa a0 a1) 0).bind (Sum.elim (fun b2=> some ((-1))) (fun b3=> some b3))
noncomputable def qka (a0:zKa) (s20:Int):Option (Step Int (Unit ⊕ zza)):=
 (bif decide (s20 < (a0.To.length:Int)) then (idx a0.To s20).bind fun v26=> (wMa v26.Address).bind fun v28=> (bif (!v28) then (R_At 10 s20).bind fun v31=> some (.out (.inr v31)) else (idx a0.To s20).bind fun v33=> (R_In v33.Notify 0 7).bind fun v35=> (bif (!v35) then (R_At 3 s20).bind fun v38=> some (.out (.inr v38)) else (cut a0.To 0 s20).bind fun v40=> (idx a0.To s20).bind fun v42=> (WVa v40 v42.Address).bind fun v44=> (bif decide (0≤v44) then (R_At 7 s20).bind fun v47=> some (.out (.inr v47)) else some (.cont (w64 (s20+1)))))) else some (.out (.inl (()))))
noncomputable def vha (a0:zKa):Option zza:=
 ((bif (a0.From !=([]:Str)) then (wMa a0.From).bind fun v3=> some ((!v3)) else some false):Option Bool).bind fun (j1:Bool)=> (bif j1 then (R_At 10 ((-10))).bind fun v6=> some v6 else (R_In ((a0.To.length:Int)) 1 60).bind fun v8=> (bif (!v8) then (R_At 2 ((-11))).bind fun v11=> some v11 else ((bif (a0.Id !=([]:Str)) then (Kza a0.Id).bind fun v15=> some ((!v15)) else some false):Option Bool).bind fun (j13:Bool)=> (bif j13 then (R_At 10 ((-12))).bind fun v18=> some v18 else (iter (qka a0) 0).bind (Sum.elim (fun b21=> some ((zza.mk 0 0))) (fun b22=> some b22)))))
def wva (a0:Str) (s5:Int):Option (Step Int (Unit ⊕ Unit)):=
 (bif decide (s5 < (a0.length:Int)) then (idx a0 s5).bind fun v11=> ((wda v11).bind fun v14=> (bif v14 then some true else (bif ((v11.toNat:Int)==45) then some true else (bif ((v11.toNat:Int)==95) then some true else some (((v11.toNat:Int)==46))))):Option Bool).bind fun (j13:Bool)=> (bif (!j13) then some (.out (.inr (()))) else some (.cont (w64 (s5+1)))) else some (.out (.inl (()))))
noncomputable def wNa (a0:Str):Option Bool:=
 ((bif (a0 !=([]:Str)) then (bif decide ((a0.length:Int)≤60) then ((iter (wva a0) 0).bind (Sum.elim (fun b6=> some true) (fun b7=> some false)):Option Bool).bind fun (j4:Bool)=> some j4 else some false) else some false):Option Bool).bind fun (j1:Bool)=> some j1
def qBa (a0:Int):Option Bool:=
 ((bif decide (0≤a0) then some (decide (a0≤7)) else some false):Option Bool).bind fun (j1:Bool)=> some j1
def kEa (v7:zca) (v19:List zca) (s22:Int):Option (Step Int (Unit ⊕ Int)):=
 (bif decide (s22 < (v19.length:Int)) then (idx v19 s22).bind fun v28=> (bif (v28.Address==v7.Address) then some (.out (.inr s22)) else some (.cont (w64 (s22+1)))) else some (.out (.inl (()))))
noncomputable def qba (a0:List zca) (s1:Int):Option (Step Int (Unit ⊕ zza)):=
 (bif decide (s1 < (a0.length:Int)) then (idx a0 s1).bind fun v7=> (kUa v7.Address).bind fun v9=> (bif (!v9) then (zAa 10 s1).bind fun v12=> some (.out (.inr v12)) else (qBa v7.Notify).bind fun v14=> (bif (!v14) then (zAa 3 s1).bind fun v17=> some (.out (.inr v17)) else (cut a0 0 s1).bind fun v19=> ((iter (kEa v7 v19) 0).bind (Sum.elim (fun b23=> some ((-1))) (fun b24=> some b24)):Option Int).bind fun (j21:Int)=> (bif decide (0≤j21) then (zAa 7 s1).bind fun v32=> some (.out (.inr v32)) else some (.cont (w64 (s1+1)))))) else some (.out (.inl (()))))
noncomputable def qaa (a0:List zca):Option zza:=
 (iter (qba a0) 0).bind (Sum.elim (fun b2=> (z7a).bind fun v34=> some v34) (fun b3=> some b3))
noncomputable def qCa (a0:zKa):Option zza:=
 ((bif (a0.From !=([]:Str)) then (kUa a0.From).bind fun v3=> some ((!v3)) else some false):Option Bool).bind fun (j1:Bool)=> (bif j1 then (zAa 10 ((-10))).bind fun v6=> some v6 else ((bif decide ((a0.To.length:Int) < 1) then some true else some (decide (60 < (a0.To.length:Int)))):Option Bool).bind fun (j8:Bool)=> (bif j8 then (zAa 2 ((-11))).bind fun v11=> some v11 else ((bif (a0.Id !=([]:Str)) then (wNa a0.Id).bind fun v15=> some ((!v15)) else some false):Option Bool).bind fun (j13:Bool)=> (bif j13 then (zAa 10 ((-12))).bind fun v18=> some v18 else (qaa a0.To).bind fun v20=> some v20)))
end Go.Proofs.YtjnmamghadpedaaGreatDoor
namespace Go.Proofs.YtjnmamghadpedaaGreatDoor
open Go.RowKit
set_option maxRecDepth 100000
set_option maxHeartbeats 40000000
def zRa (a0:Str) (a1:Str):Option Bool:=
 (qea a0 a1).bind fun v1=> some (decide (0≤v1))
def w1a (a0:Str) (s5:Int):Option (Step Int (Unit ⊕ Unit)):=
 (bif decide (s5 < (a0.length:Int)) then (idx a0 s5).bind fun v11=> ((bif decide (33≤(v11.toNat:Int)) then (bif decide ((v11.toNat:Int)≤126) then some (((v11.toNat:Int) !=58)) else some false) else some false):Option Bool).bind fun (j13:Bool)=> (bif (!j13) then some (.out (.inr (()))) else some (.cont (w64 (s5+1)))) else some (.out (.inl (()))))
noncomputable def Z1a (a0:Str):Option Bool:=
 ((bif (a0 !=([]:Str)) then (bif decide ((a0.length:Int)≤60) then ((iter (w1a a0) 0).bind (Sum.elim (fun b6=> some true) (fun b7=> some false)):Option Bool).bind fun (j4:Bool)=> some j4 else some false) else some false):Option Bool).bind fun (j1:Bool)=> some j1
def Z2a (a0:Str):Option Bool:=
 (zRa a0 (([13,10,0]:Str))).bind fun v1=> some v1
def via (a0:UInt8):Option Bool:=
 ((bif ((a0.toNat:Int)==32) then some true else some (((a0.toNat:Int)==9))):Option Bool).bind fun (j1:Bool)=> some j1
def jQa (a0:Str):Option Bool:=
 ((Z2a a0).bind fun v2=> (bif (!v2) then (bif (a0==([]:Str)) then some true else (idx a0 0).bind fun v6=> (via v6).bind fun v8=> (bif (!v8) then (idx a0 ((w64 ((a0.length:Int) - 1)))).bind fun v11=> (via v11).bind fun v13=> some ((!v13)) else some false)) else some false):Option Bool).bind fun (j1:Bool)=> some j1
def qMa (s1:Int × Int) (j5:Int):Option (Step (Int × Int) Int):=
 some (.cont (j5,(w64 (s1.2+1))))
def ypa (a0:Str) (s1:Int × Int):Option (Step (Int × Int) Int):=
 (bif decide (s1.2 < (a0.length:Int)) then ((idx a0 s1.2).bind fun v7=> (via v7).bind fun v9=> (bif (!v9) then some true else (idx a0 ((w64 (s1.2 - 1)))).bind fun v12=> (via v12).bind fun v14=> some v14):Option Bool).bind fun (j6:Bool)=> (bif j6 then (qMa s1 s1.1) else ((bif decide (0 < s1.1) then some (decide (78 < s1.2)) else some false):Option Bool).bind fun (j17:Bool)=> (bif j17 then some (.out s1.1) else (qMa s1 s1.2))) else some (.out s1.1))
noncomputable def jRa (a0:Str) (a1:Int):Option Int:=
 (iter (ypa a0) ((0,(max a1 1)))).bind fun b2=> some b2
noncomputable def w2a (s18:Str × Int × (List Str)):Option (Step (Str × Int × (List Str)) (Str × (List Str))):=
 (bif decide (78 < (s18.1.length:Int)) then (jRa s18.1 s18.2.1).bind fun v22=> (bif (v22==0) then some (.out ((s18.1,s18.2.2))) else (cut s18.1 0 v22).bind fun v25=> (app 8796093022208 s18.2.2 (([v25]:List Str))).bind fun v27=> (cut s18.1 v22 ((s18.1.length:Int))).bind fun v29=> some (.cont (v29,0,v27))) else some (.out ((s18.1,s18.2.2))))
def jra (v31:List Str) (s34:Int):Option (Step Int (Unit ⊕ ((List Str) × zza))):=
 (bif decide (s34 < (v31.length:Int)) then (idx v31 s34).bind fun v40=> (bif decide (998 < (v40.length:Int)) then (zAa 1 s34).bind fun v43=> some (.out (.inr (([],v43)))) else some (.cont (w64 (s34+1)))) else some (.out (.inl (()))))
noncomputable def jSa (a0:Str) (a1:Str):Option ((List Str) × zza):=
 (Z1a a0).bind fun v1=> (bif (!v1) then (zAa 10 ((-1))).bind fun v4=> some (([],v4)) else (bif decide (4000 < (a1.length:Int)) then (zAa 1 ((-1))).bind fun v7=> some (([],v7)) else (jQa a1).bind fun v9=> (bif (!v9) then (zAa 11 ((-1))).bind fun v12=> some (([],v12)) else (cat a0 (([58,32]:Str))).bind fun v14=> (cat v14 a1).bind fun v16=> (iter (w2a) ((v16,(w64 ((a0.length:Int)+2)),([]:List Str)))).bind fun b19=> (app 8796093022208 b19.2 (([b19.1]:List Str))).bind fun v31=> (iter (jra v31) 0).bind (Sum.elim (fun b35=> (z7a).bind fun v45=> some ((v31,v45))) (fun b36=> some ((b36.1,b36.2)))))))
end Go.Proofs.YtjnmamghadpedaaGreatDoor
namespace Go.Proofs.YtjnmamghadpedaaGreatDoor
open Go.RowKit
set_option maxRecDepth 100000
set_option maxHeartbeats 40000000
noncomputable def q3a (a0:List zga) (s4:Int):Option (Step Int (Unit ⊕ zza)):=
 (bif decide (s4 < (a0.length:Int)) then (idx a0 s4).bind fun v10=> (jSa v10.Name v10.Value).bind fun v12=> (kka v12.2).bind fun v14=> (bif v14 then (zAa v12.2.Code s4).bind fun v17=> some (.out (.inr v17)) else some (.cont (w64 (s4+1)))) else some (.out (.inl (()))))
noncomputable def vja (a0:List zga):Option zza:=
 (bif decide (60 < (a0.length:Int)) then (zAa 2 ((-1))).bind fun v2=> some v2 else (iter (q3a a0) 0).bind (Sum.elim (fun b5=> (z7a).bind fun v19=> some v19) (fun b6=> some b6)))
def qTa (v7:(List Str) × zza) (s9:Int × (List UInt8)):Option (Step (Int × (List UInt8)) (List UInt8)):=
 (bif decide (s9.1 < (v7.1.length:Int)) then (idx v7.1 s9.1).bind fun v13=> (app 140737488355328 s9.2 v13).bind fun v15=> (app 140737488355328 v15 (([(13:UInt8),(10:UInt8)]:List UInt8))).bind fun v17=> some (.cont ((w64 (s9.1+1)),v17)) else some (.out s9.2))
noncomputable def qUa (a0:zxa) (s1:Int × (List UInt8)):Option (Step (Int × (List UInt8)) (List UInt8)):=
 (bif decide (s1.1 < (a0.Fields.length:Int)) then (idx a0.Fields s1.1).bind fun v5=> (jSa v5.Name v5.Value).bind fun v7=> (iter (qTa v7) ((0,s1.2))).bind fun b10=> some (.cont ((w64 (s1.1+1)),b10)) else some (.out s1.2))
noncomputable def vva (a0:zxa):Option (List UInt8):=
 (iter (qUa a0) ((0,([]:List UInt8)))).bind fun b2=> (app 140737488355328 b2 (([(13:UInt8),(10:UInt8)]:List UInt8))).bind fun v19=> (app 140737488355328 v19 a0.Body).bind fun v21=> some v21
def wwa (j7:Int × Int):Option (Step (Int × Int) (Unit ⊕ Int)):=
 some (.cont (j7.1,(w64 (j7.2+1))))
def vwa (a0:List UInt8) (s1:Int × Int):Option (Step (Int × Int) (Unit ⊕ Int)):=
 (bif decide (s1.2 < (a0.length:Int)) then (idx a0 s1.2).bind fun v8=> ((bif ((v8.toNat:Int)==13) then (bif decide ((w64 (s1.2+1)) < (a0.length:Int)) then (idx a0 ((w64 (s1.2+1)))).bind fun v13=> some (((v13.toNat:Int)==10)) else some false) else some false):Option Bool).bind fun (j10:Bool)=> (bif j10 then (wwa (0,(w64 (s1.2+1)))) else ((bif ((v8.toNat:Int)==13) then some true else some (((v8.toNat:Int)==10))):Option Bool).bind fun (j16:Bool)=> (bif j16 then some (.out (.inr 11)) else (bif decide (998 < (w64 (s1.1+1))) then some (.out (.inr 1)) else (wwa ((w64 (s1.1+1)),s1.2))))) else some (.out (.inl (()))))
noncomputable def jTa (a0:List UInt8):Option Int:=
 (iter (vwa a0) ((0,0))).bind (Sum.elim (fun b2=> some 0) (fun b3=> some b3))
noncomputable def w3a (a0:List UInt8):Option zza:=
 (jTa a0).bind fun v1=> (bif (v1==11) then (zAa 11 ((-5))).bind fun v4=> some v4 else (bif (v1==1) then (zAa 1 ((-6))).bind fun v7=> some v7 else (z7a).bind fun v9=> some v9))
noncomputable def qfa (a0:zxa):Option zza:=
 (vja a0.Fields).bind fun v1=> (kka v1).bind fun v3=> (bif v3 then some v1 else (vva a0).bind fun v6=> (bif decide (12000 < (v6.length:Int)) then (zAa 1 ((-4))).bind fun v9=> some v9 else (w3a a0.Body).bind fun v11=> some v11))
noncomputable def vLa (a0:kea):Option zza:=
 (qCa a0.Envelope).bind fun v1=> (kka v1).bind fun v3=> (bif v3 then some v1 else (qfa a0.Message).bind fun v6=> (kka v6).bind fun v8=> (bif v8 then (zAa v6.Code ((-30))).bind fun v11=> some v11 else (z7a).bind fun v13=> some v13))
def wxa (a0:UInt8):Option Bool:=
 ((bif ((a0.toNat:Int)==32) then some true else some (((a0.toNat:Int)==9))):Option Bool).bind fun (j1:Bool)=> some j1
def kSa (s5:Str × Int × (List Str)) (s9:Int × Int):Option (Step (Int × Int) Int):=
 ((bif decide (0 < s9.2) then some ((s9.1==0)) else some false):Option Bool).bind fun (j12:Bool)=> (bif j12 then (((bif decide (s5.2.1≤s9.2) then (idx s5.1 s9.2).bind fun v18=> (wxa v18).bind fun v20=> (bif v20 then (idx s5.1 ((w64 (s9.2 - 1)))).bind fun v23=> (wxa v23).bind fun v25=> some ((!v25)) else some false) else some false):Option Bool).bind fun (j16:Bool)=> (bif j16 then some s9.2 else some s9.1):Option Int).bind fun (j15:Int)=> some (.cont (j15,(w64 (s9.2 - 1)))) else some (.out s9.1))
def kwa (s5:Str × Int × (List Str)) (s28:Int × Int):Option (Step (Int × Int) Int):=
 ((bif decide (s28.2 < (s5.1.length:Int)) then some ((s28.1==0)) else some false):Option Bool).bind fun (j31:Bool)=> (bif j31 then (((bif decide (s5.2.1≤s28.2) then (idx s5.1 s28.2).bind fun v37=> (wxa v37).bind fun v39=> (bif v39 then (idx s5.1 ((w64 (s28.2 - 1)))).bind fun v42=> (wxa v42).bind fun v44=> some ((!v44)) else some false) else some false):Option Bool).bind fun (j35:Bool)=> (bif j35 then some s28.2 else some s28.1):Option Int).bind fun (j34:Int)=> some (.cont (j34,(w64 (s28.2+1)))) else some (.out s28.1))
noncomputable def vka (s5:Str × Int × (List Str)):Option (Step (Str × Int × (List Str)) (Str × (List Str))):=
 (bif decide (78 < (s5.1.length:Int)) then (iter (kSa s5) ((0,78))).bind fun b10=> (iter (kwa s5) ((b10,79))).bind fun b29=> (bif (b29==0) then some (.out ((s5.1,s5.2.2))) else (cut s5.1 0 b29).bind fun v48=> (app 8796093022208 s5.2.2 (([v48]:List Str))).bind fun v50=> (cut s5.1 b29 ((s5.1.length:Int))).bind fun v52=> some (.cont (v52,1,v50))) else some (.out ((s5.1,s5.2.2))))
noncomputable def wea (a0:Str) (a1:Str):Option (List Str):=
 (cat a0 (([58,32]:Str))).bind fun v1=> (cat v1 a1).bind fun v3=> (iter (vka) ((v3,(w64 ((a0.length:Int)+2)),([]:List Str)))).bind fun b6=> (app 8796093022208 b6.2 (([b6.1]:List Str))).bind fun v54=> some v54
def vMa (a0:zga) (s1:Int):Option (Step Int (Unit ⊕ Int)):=
 (bif decide (s1 < (a0.Name.length:Int)) then ((idx a0.Name s1).bind fun v8=> (R_In ((v8.toNat:Int)) 33 126).bind fun v10=> (bif (!v10) then some true else (idx a0.Name s1).bind fun v13=> some (((v13.toNat:Int)==58))):Option Bool).bind fun (j7:Bool)=> (bif j7 then some (.out (.inr 10)) else some (.cont (w64 (s1+1)))) else some (.out (.inl (()))))
def vNa (a0:zga) (s20:Int):Option (Step Int (Unit ⊕ Int)):=
 (bif decide (s20 < (a0.Value.length:Int)) then ((idx a0.Value s20).bind fun v27=> (bif ((v27.toNat:Int)==0) then some true else (idx a0.Value s20).bind fun v30=> (bif ((v30.toNat:Int)==10) then some true else (idx a0.Value s20).bind fun v33=> some (((v33.toNat:Int)==13)))):Option Bool).bind fun (j26:Bool)=> (bif j26 then some (.out (.inr 11)) else some (.cont (w64 (s20+1)))) else some (.out (.inl (()))))
def vOa (v48:List Str) (s50:Int):Option (Step Int (Unit ⊕ Int)):=
 (bif decide (s50 < (v48.length:Int)) then (idx v48 s50).bind fun v56=> (bif decide (998 < (v56.length:Int)) then some (.out (.inr 1)) else some (.cont (w64 (s50+1)))) else some (.out (.inl (()))))
noncomputable def yMa (a0:zga):Option Int:=
 (iter (vMa a0) 0).bind (Sum.elim (fun b2=> (R_In ((a0.Name.length:Int)) 1 60).bind fun v16=> (bif (!v16) then some 10 else (bif decide (4000 < (a0.Value.length:Int)) then some 1 else (iter (vNa a0) 0).bind (Sum.elim (fun b21=> ((bif decide (0 < (a0.Value.length:Int)) then (idx a0.Value 0).bind fun v38=> (wxa v38).bind fun v40=> (bif v40 then some true else (idx a0.Value ((w64 ((a0.Value.length:Int) - 1)))).bind fun v43=> (wxa v43).bind fun v45=> some v45) else some false):Option Bool).bind fun (j36:Bool)=> (bif j36 then some 11 else (wea a0.Name a0.Value).bind fun v48=> (iter (vOa v48) 0).bind (Sum.elim (fun b51=> some 0) (fun b52=> some b52)))) (fun b22=> some b22))))) (fun b3=> some b3))
def qDa (v9:List Str) (s11:Int × (List UInt8)):Option (Step (Int × (List UInt8)) (List UInt8)):=
 (bif decide (s11.1 < (v9.length:Int)) then (idx v9 s11.1).bind fun v15=> (app 140737488355328 s11.2 v15).bind fun v17=> (app 140737488355328 v17 (([(13:UInt8),(10:UInt8)]:List UInt8))).bind fun v19=> some (.cont ((w64 (s11.1+1)),v19)) else some (.out s11.2))
noncomputable def qEa (a0:zxa) (s1:Int × (List UInt8)):Option (Step (Int × (List UInt8)) (List UInt8)):=
 (bif decide (s1.1 < (a0.Fields.length:Int)) then (idx a0.Fields s1.1).bind fun v5=> (idx a0.Fields s1.1).bind fun v7=> (wea v5.Name v7.Value).bind fun v9=> (iter (qDa v9) ((0,s1.2))).bind fun b12=> some (.cont ((w64 (s1.1+1)),b12)) else some (.out s1.2))
noncomputable def k4a (a0:zxa):Option (List UInt8):=
 (iter (qEa a0) ((0,([]:List UInt8)))).bind fun b2=> (app 140737488355328 b2 (([(13:UInt8),(10:UInt8)]:List UInt8))).bind fun v21=> (app 140737488355328 v21 a0.Body).bind fun v23=> some v23
noncomputable def vxa (a0:zxa) (s4:Int):Option (Step Int (Unit ⊕ zza)):=
 (bif decide (s4 < (a0.Fields.length:Int)) then (idx a0.Fields s4).bind fun v10=> (yMa v10).bind fun v12=> (bif (v12 !=0) then (R_At v12 s4).bind fun v15=> some (.out (.inr v15)) else some (.cont (w64 (s4+1)))) else some (.out (.inl (()))))
def qFa (j30:Int × Int):Option (Step (Int × Int) (Unit ⊕ zza)):=
 some (.cont (j30.1,(w64 (j30.2+1))))
def k7a (a0:zxa) (s24:Int × Int):Option (Step (Int × Int) (Unit ⊕ zza)):=
 (bif decide (s24.2 < (a0.Body.length:Int)) then (idx a0.Body s24.2).bind fun v31=> ((bif ((v31.toNat:Int)==13) then (bif decide ((w64 (s24.2+1)) < (a0.Body.length:Int)) then (idx a0.Body ((w64 (s24.2+1)))).bind fun v36=> some (((v36.toNat:Int)==10)) else some false) else some false):Option Bool).bind fun (j33:Bool)=> (bif j33 then (qFa (0,(w64 (s24.2+1)))) else ((bif ((v31.toNat:Int)==13) then some true else some (((v31.toNat:Int)==10))):Option Bool).bind fun (j39:Bool)=> (bif j39 then (R_At 11 ((-5))).bind fun v42=> some (.out (.inr v42)) else (bif decide (998 < (w64 (s24.1+1))) then (R_At 1 ((-6))).bind fun v45=> some (.out (.inr v45)) else (qFa ((w64 (s24.1+1)),s24.2))))) else some (.out (.inl (()))))
noncomputable def qWa (a0:zxa):Option zza:=
 (bif decide (60 < (a0.Fields.length:Int)) then (R_At 2 ((-1))).bind fun v2=> some v2 else (iter (vxa a0) 0).bind (Sum.elim (fun b5=> ((bif decide (12000 < (a0.Body.length:Int)) then some true else (k4a a0).bind fun v19=> some (decide (12000 < (v19.length:Int)))):Option Bool).bind fun (j17:Bool)=> (bif j17 then (R_At 1 ((-4))).bind fun v22=> some v22 else (iter (k7a a0) ((0,0))).bind (Sum.elim (fun b25=> some ((zza.mk 0 0))) (fun b26=> some b26)))) (fun b6=> some b6)))
noncomputable def yNa (a0:kea):Option zza:=
 (vha a0.Envelope).bind fun v1=> (((bif (v1.Code==0) then (qWa a0.Message).bind fun v6=> some ((v6.Code !=0)) else some false):Option Bool).bind fun (j4:Bool)=> (bif j4 then (qWa a0.Message).bind fun v9=> (R_At v9.Code ((-30))).bind fun v11=> some ((v11.Code,v11.Index)) else some ((v1.Code,v1.Index))):Option (Int × Int)).bind fun (j3:Int × Int)=> some ((zza.mk j3.1 j3.2))
end Go.Proofs.YtjnmamghadpedaaGreatDoor
namespace Go.Proofs.YtjnmamghadpedaaGreatDoor
open Go.RowKit
set_option maxRecDepth 100000
set_option maxHeartbeats 40000000
def vXa (a0:zxa) (a1:zxa) (s4:Int):Option (Step Int (Unit ⊕ Bool)):=
 (bif decide (s4 < (a0.Fields.length:Int)) then (idx a0.Fields s4).bind fun v10=> (idx a1.Fields s4).bind fun v12=> (bif (!(q7a [(v10.Name==v12.Name),(v10.Value==v12.Value)])) then some (.out (.inr false)) else some (.cont (w64 (s4+1)))) else some (.out (.inl (()))))
noncomputable def wya (a0:zxa) (a1:zxa):Option Bool:=
 ((bif ((a0.Fields.length:Int) !=(a1.Fields.length:Int)) then some true else some ((a0.Body !=a1.Body))):Option Bool).bind fun (j1:Bool)=> (bif j1 then some false else (iter (vXa a0 a1) 0).bind (Sum.elim (fun b5=> some true) (fun b6=> some b6)))
end Go.Proofs.YtjnmamghadpedaaGreatDoor
namespace Go.Proofs.YtjnmamghadpedaaGreatDoor
open Go.RowKit
set_option maxRecDepth 100000
set_option maxHeartbeats 40000000
def yqa (a0:kea) (a1:kea) (s5:Int):Option (Step Int (Unit ⊕ Bool)):=
 (bif decide (s5 < (a0.Envelope.To.length:Int)) then (idx a0.Envelope.To s5).bind fun v11=> (idx a1.Envelope.To s5).bind fun v13=> (bif (!(q7a [(v11.Address==v13.Address),(v11.Notify==v13.Notify)])) then some (.out (.inr false)) else some (.cont (w64 (s5+1)))) else some (.out (.inl (()))))
noncomputable def jUa (a0:kea) (a1:kea):Option Bool:=
 ((bif (a0.Envelope.From !=a1.Envelope.From) then some true else (bif (a0.Envelope.Id !=a1.Envelope.Id) then some true else some (((a0.Envelope.To.length:Int) !=(a1.Envelope.To.length:Int))))):Option Bool).bind fun (j1:Bool)=> (bif j1 then some false else (iter (yqa a0 a1) 0).bind (Sum.elim (fun b6=> (wya a0.Message a1.Message).bind fun v16=> some v16) (fun b7=> some b7)))
end Go.Proofs.YtjnmamghadpedaaGreatDoor
namespace Go.Proofs.YtjnmamghadpedaaGreatDoor
open Go.RowKit
set_option maxRecDepth 100000
set_option maxHeartbeats 40000000
end Go.Proofs.YtjnmamghadpedaaGreatDoor
namespace Go.Proofs.YtjnmamghadpedaaGreatDoor
open Go.RowKit
set_option maxRecDepth 100000
set_option maxHeartbeats 40000000
noncomputable def z8a (a0:List zga):Option (List zga):=
 (nilE a0.isEmpty (some ([])) ((app 4398046511104 ([]:List zga) a0).bind fun v2=> some v2))
end Go.Proofs.YtjnmamghadpedaaGreatDoor
namespace Go.Proofs.YtjnmamghadpedaaGreatDoor
open Go.RowKit
set_option maxRecDepth 100000
set_option maxHeartbeats 40000000
end Go.Proofs.YtjnmamghadpedaaGreatDoor
namespace Go.Proofs.YtjnmamghadpedaaGreatDoor
open Go.RowKit
def k5a (n:Int):Option Str:=if -9223372036854775808≤n∧n≤9223372036854775807 then some (Lib.itoa n) else none
def qJa (s:Str):Option (Int × Bool):=if s.length≤18 then (match Lib.atoi s with | some n=> some (n,false) | none=> some (0,true)) else none
end Go.Proofs.YtjnmamghadpedaaGreatDoor
namespace Go.Proofs.YtjnmamghadpedaaGreatDoor
open Go.RowKit
set_option maxRecDepth 100000
set_option maxHeartbeats 40000000
def yxa (a0:Int):Option Bool:=
 ((bif decide (200≤a0) then some (decide (a0≤599)) else some false):Option Bool).bind fun (j1:Bool)=> some j1
def vya (a0:kba) (s11:Int):Option (Step Int (Unit ⊕ zza)):=
 (bif decide (s11 < (a0.Lines.length:Int)) then (idx a0.Lines s11).bind fun v17=> (bif decide (500 < (v17.length:Int)) then (zAa 1 s11).bind fun v20=> some (.out (.inr v20)) else (zRa v17 (([13,10]:Str))).bind fun v22=> (bif v22 then (zAa 5 s11).bind fun v25=> some (.out (.inr v25)) else some (.cont (w64 (s11+1))))) else some (.out (.inl (()))))
noncomputable def vPa (a0:kba):Option zza:=
 (yxa a0.Code).bind fun v1=> (bif (!v1) then (zAa 3 ((-1))).bind fun v4=> some v4 else ((bif decide ((a0.Lines.length:Int) < 1) then some true else some (decide (20 < (a0.Lines.length:Int)))):Option Bool).bind fun (j6:Bool)=> (bif j6 then (zAa 2 ((-2))).bind fun v9=> some v9 else (iter (vya a0) 0).bind (Sum.elim (fun b12=> (z7a).bind fun v27=> some v27) (fun b13=> some b13))))
def wza (a0:Str) (s1:Int):Option (Step Int (Unit ⊕ Bool)):=
 (bif decide (s1 < (a0.length:Int)) then ((idx a0 s1).bind fun v8=> (bif decide ((v8.toNat:Int) < 48) then some true else (idx a0 s1).bind fun v11=> some (decide (57 < (v11.toNat:Int)))):Option Bool).bind fun (j7:Bool)=> (bif j7 then some (.out (.inr false)) else some (.cont (w64 (s1+1)))) else some (.out (.inl (()))))
noncomputable def vla (a0:Str):Option Bool:=
 (iter (wza a0) 0).bind (Sum.elim (fun b2=> some ((a0 !=([]:Str)))) (fun b3=> some b3))
noncomputable def jVa (a0:Str):Option (Int × Str × Bool × Bool):=
 ((bif decide ((a0.length:Int) < 4) then some true else (idx a0 3).bind fun v3=> (bif ((v3.toNat:Int) !=45) then (idx a0 3).bind fun v6=> (bif ((v6.toNat:Int) !=32) then some true else (cut a0 0 3).bind fun v9=> (vla v9).bind fun v11=> (bif (!v11) then some true else (zRa a0 (([13,10]:Str))).bind fun v14=> some v14)) else (cut a0 0 3).bind fun v16=> (vla v16).bind fun v18=> (bif (!v18) then some true else (zRa a0 (([13,10]:Str))).bind fun v21=> some v21))):Option Bool).bind fun (j1:Bool)=> (bif j1 then some ((0,([]:Str),false,false)) else (cut a0 0 3).bind fun v24=> (qJa v24).bind fun v26=> (cut a0 4 ((a0.length:Int))).bind fun v28=> (idx a0 3).bind fun v30=> (yxa v26.1).bind fun v32=> some ((v26.1,v28,((v30.toNat:Int)==32),v32)))
noncomputable def wVa (a0:List Str) (s4:Int × (List Str) × Int):Option (Step (Int × (List Str) × Int) (Unit ⊕ (kba × Int × zza))):=
 (bif decide (s4.1 < (a0.length:Int)) then (idx a0 s4.1).bind fun v10=> (jVa v10).bind fun v12=> ((bif (s4.1==20) then some 2 else (bif (!v12.2.2.2) then some 11 else (bif decide (500 < (v12.2.1.length:Int)) then some 1 else ((bif decide (0 < s4.1) then some ((v12.1 !=s4.2.2)) else some false):Option Bool).bind fun (j18:Bool)=> (bif j18 then some 5 else some 0)))):Option Int).bind fun (j14:Int)=> (bif (j14 !=0) then (zAa j14 s4.1).bind fun v22=> some (.out (.inr (((kba.mk 0 ([])),0,v22)))) else (app 8796093022208 s4.2.1 (([v12.2.1]:List Str))).bind fun v24=> (bif v12.2.2.1 then (z7a).bind fun v27=> some (.out (.inr (((kba.mk v12.1 v24),(w64 (s4.1+1)),v27)))) else some (.cont ((w64 (s4.1+1)),v24,v12.1)))) else some (.out (.inl (()))))
noncomputable def yOa (a0:List Str):Option (kba × Int × zza):=
 (bif decide (300 < (a0.length:Int)) then (zAa 2 ((-1))).bind fun v2=> some (((kba.mk 0 ([])),0,v2)) else (iter (wVa a0) ((0,([]:List Str),0))).bind (Sum.elim (fun b5=> (zAa 9 ((-2))).bind fun v29=> some (((kba.mk 0 ([])),0,v29))) (fun b6=> some ((b6.1,b6.2.1,b6.2.2)))))
noncomputable def yPa (a0:kba):Option (Int × zza):=
 (vPa a0).bind fun v1=> (kka v1).bind fun v3=> (bif v3 then some ((0,v1)) else (z7a).bind fun v6=> some (((iQuo a0.Code 100),v6)))
def QQa (a0:Str) (s1:Int):Option (Step Int (Unit ⊕ Bool)):=
 (bif decide (s1 < (a0.length:Int)) then ((idx a0 s1).bind fun v8=> (bif ((v8.toNat:Int)==13) then some true else (idx a0 s1).bind fun v11=> some (((v11.toNat:Int)==10))):Option Bool).bind fun (j7:Bool)=> (bif j7 then some (.out (.inr true)) else some (.cont (w64 (s1+1)))) else some (.out (.inl (()))))
noncomputable def VVa (a0:Str):Option Bool:=
 (iter (QQa a0) 0).bind (Sum.elim (fun b2=> some false) (fun b3=> some b3))
def yQa (a0:Int):Option Str:=
 (bif decide (a0 < 10) then (cut (([48,49,50,51,52,53,54,55,56,57]:Str)) a0 ((w64 (a0+1)))).bind fun v2=> some v2 else none)
def yRa (a0:Int):Option Str:=
 (bif decide (a0 < 10) then (cut (([48,49,50,51,52,53,54,55,56,57]:Str)) a0 ((w64 (a0+1)))).bind fun v2=> some v2 else (yQa ((iQuo a0 10))).bind fun v4=> (yQa ((iRem a0 10))).bind fun v6=> (cat v4 v6).bind fun v8=> some v8)
def ySa (a0:Int):Option Str:=
 (bif decide (a0 < 10) then (cut (([48,49,50,51,52,53,54,55,56,57]:Str)) a0 ((w64 (a0+1)))).bind fun v2=> some v2 else (yRa ((iQuo a0 10))).bind fun v4=> (yRa ((iRem a0 10))).bind fun v6=> (cat v4 v6).bind fun v8=> some v8)
def yTa (a0:Int):Option Str:=
 (bif decide (a0 < 10) then (cut (([48,49,50,51,52,53,54,55,56,57]:Str)) a0 ((w64 (a0+1)))).bind fun v2=> some v2 else (ySa ((iQuo a0 10))).bind fun v4=> (ySa ((iRem a0 10))).bind fun v6=> (cat v4 v6).bind fun v8=> some v8)
def yUa (a0:Int):Option Str:=
 (bif decide (a0 < 10) then (cut (([48,49,50,51,52,53,54,55,56,57]:Str)) a0 ((w64 (a0+1)))).bind fun v2=> some v2 else (yTa ((iQuo a0 10))).bind fun v4=> (yTa ((iRem a0 10))).bind fun v6=> (cat v4 v6).bind fun v8=> some v8)
def yVa (a0:Int):Option Str:=
 (bif decide (a0 < 10) then (cut (([48,49,50,51,52,53,54,55,56,57]:Str)) a0 ((w64 (a0+1)))).bind fun v2=> some v2 else (yUa ((iQuo a0 10))).bind fun v4=> (yUa ((iRem a0 10))).bind fun v6=> (cat v4 v6).bind fun v8=> some v8)
def yWa (a0:Int):Option Str:=
 (bif decide (a0 < 10) then (cut (([48,49,50,51,52,53,54,55,56,57]:Str)) a0 ((w64 (a0+1)))).bind fun v2=> some v2 else (yVa ((iQuo a0 10))).bind fun v4=> (yVa ((iRem a0 10))).bind fun v6=> (cat v4 v6).bind fun v8=> some v8)
def yXa (a0:Int):Option Str:=
 (bif decide (a0 < 10) then (cut (([48,49,50,51,52,53,54,55,56,57]:Str)) a0 ((w64 (a0+1)))).bind fun v2=> some v2 else (yWa ((iQuo a0 10))).bind fun v4=> (yWa ((iRem a0 10))).bind fun v6=> (cat v4 v6).bind fun v8=> some v8)
def yYa (a0:Int):Option Str:=
 (bif decide (a0 < 10) then (cut (([48,49,50,51,52,53,54,55,56,57]:Str)) a0 ((w64 (a0+1)))).bind fun v2=> some v2 else (yXa ((iQuo a0 10))).bind fun v4=> (yXa ((iRem a0 10))).bind fun v6=> (cat v4 v6).bind fun v8=> some v8)
def yZa (a0:Int):Option Str:=
 (bif decide (a0 < 10) then (cut (([48,49,50,51,52,53,54,55,56,57]:Str)) a0 ((w64 (a0+1)))).bind fun v2=> some v2 else (yYa ((iQuo a0 10))).bind fun v4=> (yYa ((iRem a0 10))).bind fun v6=> (cat v4 v6).bind fun v8=> some v8)
def w4a (a0:Int):Option Str:=
 (bif decide (a0 < 10) then (cut (([48,49,50,51,52,53,54,55,56,57]:Str)) a0 ((w64 (a0+1)))).bind fun v2=> some v2 else (yZa ((iQuo a0 10))).bind fun v4=> (yZa ((iRem a0 10))).bind fun v6=> (cat v4 v6).bind fun v8=> some v8)
def w5a (a0:Int):Option Str:=
 (bif decide (a0 < 10) then (cut (([48,49,50,51,52,53,54,55,56,57]:Str)) a0 ((w64 (a0+1)))).bind fun v2=> some v2 else (w4a ((iQuo a0 10))).bind fun v4=> (w4a ((iRem a0 10))).bind fun v6=> (cat v4 v6).bind fun v8=> some v8)
def Zka (a0:Int):Option Str:=
 (bif decide (a0 < 10) then (cut (([48,49,50,51,52,53,54,55,56,57]:Str)) a0 ((w64 (a0+1)))).bind fun v2=> some v2 else (w5a ((iQuo a0 10))).bind fun v4=> (w5a ((iRem a0 10))).bind fun v6=> (cat v4 v6).bind fun v8=> some v8)
def y0a (a0:Str) (s9:Int × Int):Option (Step (Int × Int) (Int ⊕ Int)):=
 (bif decide (s9.2 < (a0.length:Int)) then (idx a0 s9.2).bind fun v15=> (R_In ((v15.toNat:Int)) 48 57).bind fun v17=> (bif (!v17) then some (.out (.inr ((-1)))) else (idx a0 s9.2).bind fun v20=> some (.cont ((w64 ((w64 (10 * s9.1))+(((v20 - (48:UInt8))).toNat:Int))),(w64 (s9.2+1))))) else some (.out (.inl s9.1)))
noncomputable def KBa (a0:Str):Option Int:=
 ((R_In ((a0.length:Int)) 1 9).bind fun v2=> (bif (!v2) then some true else (bif decide (1 < (a0.length:Int)) then (idx a0 0).bind fun v6=> some (((v6.toNat:Int)==48)) else some false)):Option Bool).bind fun (j1:Bool)=> (bif j1 then some ((-1)) else (iter (y0a a0) ((0,0))).bind (Sum.elim (fun b10=> some b10) (fun b11=> some b11)))
noncomputable def jsa (a0:List Str) (s4:Int × (List Str) × Int):Option (Step (Int × (List Str) × Int) (Unit ⊕ (kba × Int × zza))):=
 (bif decide (s4.1 < (a0.length:Int)) then (idx a0 s4.1).bind fun v10=> (bif (s4.1==20) then (R_At 2 s4.1).bind fun v13=> some (.out (.inr (((kba.mk 0 ([])),0,v13)))) else (((bif decide (4≤(v10.length:Int)) then (idx v10 3).bind fun v18=> (bif ((v18.toNat:Int)==45) then (VVa v10).bind fun v21=> some ((!v21)) else (idx v10 3).bind fun v23=> (bif ((v23.toNat:Int)==32) then (VVa v10).bind fun v26=> some ((!v26)) else some false)) else some false):Option Bool).bind fun (j16:Bool)=> (bif j16 then (cut v10 0 3).bind fun v29=> (KBa v29).bind fun v31=> some v31 else some ((-1))):Option Int).bind fun (j15:Int)=> (R_In j15 200 599).bind fun v33=> (bif (!v33) then (R_At 11 s4.1).bind fun v36=> some (.out (.inr (((kba.mk 0 ([])),0,v36)))) else (bif decide (504 < (v10.length:Int)) then (R_At 1 s4.1).bind fun v39=> some (.out (.inr (((kba.mk 0 ([])),0,v39)))) else ((bif decide (0 < s4.1) then some ((j15 !=s4.2.2)) else some false):Option Bool).bind fun (j41:Bool)=> (bif j41 then (R_At 5 s4.1).bind fun v44=> some (.out (.inr (((kba.mk 0 ([])),0,v44)))) else (cut v10 4 ((v10.length:Int))).bind fun v46=> (app 8796093022208 s4.2.1 (([v46]:List Str))).bind fun v48=> (idx v10 3).bind fun v50=> (bif ((v50.toNat:Int)==32) then some (.out (.inr (((kba.mk j15 v48),(w64 (s4.1+1)),(zza.mk 0 0))))) else some (.cont ((w64 (s4.1+1)),v48,j15))))))) else some (.out (.inl (()))))
noncomputable def Z3a (a0:List Str):Option (kba × Int × zza):=
 (bif decide (300 < (a0.length:Int)) then (R_At 2 ((-1))).bind fun v2=> some (((kba.mk 0 ([])),0,v2)) else (iter (jsa a0) ((0,([]:List Str),0))).bind (Sum.elim (fun b5=> (R_At 9 ((-2))).bind fun v53=> some (((kba.mk 0 ([])),0,v53))) (fun b6=> some ((b6.1,b6.2.1,b6.2.2)))))
end Go.Proofs.YtjnmamghadpedaaGreatDoor
namespace Go.Proofs.YtjnmamghadpedaaGreatDoor
open Go.RowKit
def vma (l:List Str) (s:Str):Option Str:=if l.length≤140737488355328∧(Lib.join l s).length≤140737488355328 then some (Lib.join l s) else none
end Go.Proofs.YtjnmamghadpedaaGreatDoor
namespace Go.Proofs.YtjnmamghadpedaaGreatDoor
open Go.RowKit
end Go.Proofs.YtjnmamghadpedaaGreatDoor
namespace Go.Proofs.YtjnmamghadpedaaGreatDoor
open Go.RowKit
set_option maxRecDepth 100000
set_option maxHeartbeats 40000000
end Go.Proofs.YtjnmamghadpedaaGreatDoor
namespace Go.Proofs.YtjnmamghadpedaaGreatDoor
open Go.RowKit
end Go.Proofs.YtjnmamghadpedaaGreatDoor
namespace Go.Proofs.YtjnmamghadpedaaGreatDoor
open Go.RowKit
end Go.Proofs.YtjnmamghadpedaaGreatDoor
namespace Go.Proofs.YtjnmamghadpedaaGreatDoor
open Go.RowKit
set_option maxRecDepth 100000
set_option maxHeartbeats 40000000
def w6a (a0:zta):Option zta:=
 ((bif (a0.Verb==1) then some ((a0.Name,([]:Str),0,0,false)) else (bif (a0.Verb==2) then some ((([]:Str),a0.Address,a0.Size,0,false)) else (bif (a0.Verb==3) then some ((([]:Str),a0.Address,0,a0.Notify,false)) else (bif (a0.Verb==5) then some ((([]:Str),([]:Str),a0.Size,0,a0.Last)) else some ((([]:Str),([]:Str),0,0,false)))))):Option (Str × Str × Int × Int × Bool)).bind fun (j1:Str × Str × Int × Int × Bool)=> some ((zta.mk a0.Verb j1.1 j1.2.1 j1.2.2.1 j1.2.2.2.1 j1.2.2.2.2))
noncomputable def qVa (a0:zta):Option zza:=
 ((bif (a0.Verb==3) then some true else (bif (a0.Verb==2) then some ((a0.Address !=([]:Str))) else some false)):Option Bool).bind fun (j1:Bool)=> ((bif decide (a0.Verb < 1) then some true else some (decide (8 < a0.Verb))):Option Bool).bind fun (j4:Bool)=> (bif j4 then (zAa 4 ((-2))).bind fun v7=> some v7 else (w6a a0).bind fun v9=> (bif (!(q7a [(a0.Verb==v9.Verb),(a0.Name==v9.Name),(a0.Address==v9.Address),(a0.Size==v9.Size),(a0.Notify==v9.Notify),(a0.Last==v9.Last)])) then (zAa 5 ((-3))).bind fun v12=> some v12 else ((bif (a0.Verb==1) then (wNa a0.Name).bind fun v16=> some ((!v16)) else some false):Option Bool).bind fun (j14:Bool)=> (bif j14 then (zAa 10 ((-4))).bind fun v19=> some v19 else ((bif j1 then (kUa a0.Address).bind fun v23=> some ((!v23)) else some false):Option Bool).bind fun (j21:Bool)=> (bif j21 then (zAa 10 ((-5))).bind fun v26=> some v26 else ((bif decide (a0.Size < 0) then some true else some (decide (1000000 < a0.Size))):Option Bool).bind fun (j28:Bool)=> (bif j28 then (zAa 3 ((-6))).bind fun v31=> some v31 else (qBa a0.Notify).bind fun v33=> (bif (!v33) then (zAa 3 ((-7))).bind fun v36=> some v36 else (z7a).bind fun v38=> some v38))))))
def yra:Option (Str × Str × Str × Str × Str × Str × Str × Str):=
 some ((([104,101,108,108,111]:Str),([109,97,105,108]:Str),([114,99,112,116]:Str),([100,97,116,97]:Str),([99,104,117,110,107]:Str),([114,101,115,101,116]:Str),([110,111,111,112]:Str),([113,117,105,116]:Str)))
def q4a:Option (zna × zna × zna):=
 some (((zna.mk 1 (([102,97,105,108,117,114,101]:Str))),(zna.mk 2 (([100,101,108,97,121]:Str))),(zna.mk 4 (([115,117,99,99,101,115,115]:Str)))))
def wOa (a0:Int) (v1:zna × zna × zna) (s3:Int × (List Str)):Option (Step (Int × (List Str)) (List Str)):=
 (bif decide (s3.1 < 3) then ((idx ([v1.1,v1.2.1,v1.2.2]:List zna) s3.1).bind fun v8=> (bif ((iAnd a0 v8.n) !=0) then (app 8796093022208 s3.2 (([v8.word]:List Str))).bind fun v11=> some v11 else some s3.2):Option (List Str)).bind fun (j7:List Str)=> some (.cont ((w64 (s3.1+1)),j7)) else some (.out s3.2))
noncomputable def vQa (a0:Int):Option Str:=
 (q4a).bind fun v1=> (iter (wOa a0 v1) ((0,([]:List Str)))).bind fun b4=> (bif ((b4.length:Int)==0) then some (([110,101,118,101,114]:Str)) else (vma b4 (([44]:Str))).bind fun v14=> some v14)
noncomputable def wAa (a0:zta):Option (Str × zza):=
 (qVa a0).bind fun v1=> (kka v1).bind fun v3=> (bif v3 then some ((([]:Str),v1)) else (yra).bind fun v6=> (idx ([v6.1,v6.2.1,v6.2.2.1,v6.2.2.2.1,v6.2.2.2.2.1,v6.2.2.2.2.2.1,v6.2.2.2.2.2.2.1,v6.2.2.2.2.2.2.2]:List Str) ((w64 (a0.Verb - 1)))).bind fun v8=> ((bif (a0.Verb==1) then (cat (([32]:Str)) a0.Name).bind fun v12=> (cat v8 v12).bind fun v14=> some v14 else (bif (a0.Verb==2) then (cat (([32,60]:Str)) a0.Address).bind fun v17=> (cat v17 (([62]:Str))).bind fun v19=> (cat v8 v19).bind fun v21=> (bif (a0.Size !=0) then (k5a a0.Size).bind fun v24=> (cat (([32,115,105,122,101,61]:Str)) v24).bind fun v26=> (cat v21 v26).bind fun v28=> some v28 else some v21) else (bif (a0.Verb==3) then (cat (([32,60]:Str)) a0.Address).bind fun v31=> (cat v31 (([62]:Str))).bind fun v33=> (cat v8 v33).bind fun v35=> (bif (a0.Notify !=1) then (vQa a0.Notify).bind fun v38=> (cat (([32,110,111,116,105,102,121,61]:Str)) v38).bind fun v40=> (cat v35 v40).bind fun v42=> some v42 else some v35) else (bif (a0.Verb==5) then (k5a a0.Size).bind fun v45=> (cat (([32]:Str)) v45).bind fun v47=> (cat v8 v47).bind fun v49=> (bif a0.Last then (cat v49 (([32,108,97,115,116]:Str))).bind fun v52=> some v52 else some v49) else some v8)))):Option Str).bind fun (j10:Str)=> (z7a).bind fun v54=> some ((j10,v54)))
end Go.Proofs.YtjnmamghadpedaaGreatDoor
namespace Go.Proofs.YtjnmamghadpedaaGreatDoor
open Go.RowKit
set_option maxRecDepth 100000
set_option maxHeartbeats 40000000
def zMb (a0:Int):Option Str:=
 (idx (([([104,101,108,108,111]:Str),([109,97,105,108]:Str),([114,99,112,116]:Str),([100,97,116,97]:Str),([99,104,117,110,107]:Str),([114,101,115,101,116]:Str),([110,111,111,112]:Str),([113,117,105,116]:Str)]:List Str)) ((w64 (a0 - 1)))).bind fun v1=> some v1
def w7a (a0:Int):Option Str:=
 (idx (([([110,101,118,101,114]:Str),([102,97,105,108,117,114,101]:Str),([100,101,108,97,121]:Str),([102,97,105,108,117,114,101,44,100,101,108,97,121]:Str),([115,117,99,99,101,115,115]:Str),([102,97,105,108,117,114,101,44,115,117,99,99,101,115,115]:Str),([100,101,108,97,121,44,115,117,99,99,101,115,115]:Str),([102,97,105,108,117,114,101,44,100,101,108,97,121,44,115,117,99,99,101,115,115]:Str)]:List Str)) a0).bind fun v1=> some v1
def wBa (a0:zta):Option Str:=
 (zMb a0.Verb).bind fun v1=> ((bif (a0.Verb==1) then (cat v1 (([32]:Str))).bind fun v5=> (cat v5 a0.Name).bind fun v7=> some v7 else (bif (a0.Verb==2) then (cat v1 (([32,60]:Str))).bind fun v10=> (cat v10 a0.Address).bind fun v12=> (cat v12 (([62]:Str))).bind fun v14=> (bif decide (0 < a0.Size) then (cat v14 (([32,115,105,122,101,61]:Str))).bind fun v17=> (Zka a0.Size).bind fun v19=> (cat v17 v19).bind fun v21=> some v21 else some v14) else (bif (a0.Verb==3) then (cat v1 (([32,60]:Str))).bind fun v24=> (cat v24 a0.Address).bind fun v26=> (cat v26 (([62]:Str))).bind fun v28=> (bif (a0.Notify !=1) then (cat v28 (([32,110,111,116,105,102,121,61]:Str))).bind fun v31=> (w7a a0.Notify).bind fun v33=> (cat v31 v33).bind fun v35=> some v35 else some v28) else (bif (a0.Verb==5) then (cat v1 (([32]:Str))).bind fun v38=> (Zka a0.Size).bind fun v40=> (cat v38 v40).bind fun v42=> (bif a0.Last then (cat v42 (([32,108,97,115,116]:Str))).bind fun v45=> some v45 else some v42) else some v1)))):Option Str).bind fun (j3:Str)=> some j3
end Go.Proofs.YtjnmamghadpedaaGreatDoor
namespace Go.Proofs.YtjnmamghadpedaaGreatDoor
open Go.RowKit
set_option maxRecDepth 100000
set_option maxHeartbeats 40000000
noncomputable def wCa (a0:zxa):Option ((List UInt8) × zza):=
 (qfa a0).bind fun v1=> (kka v1).bind fun v3=> (bif v3 then some (([],v1)) else (vva a0).bind fun v6=> (z7a).bind fun v8=> some ((v6,v8)))
end Go.Proofs.YtjnmamghadpedaaGreatDoor
namespace Go.Proofs.YtjnmamghadpedaaGreatDoor
open Go.RowKit
set_option maxRecDepth 100000
set_option maxHeartbeats 40000000
def z4a (a0:zfa) (a1:Int) (s1:Int × zfa):Option (Step (Int × zfa) zfa):=
 (bif decide (s1.1 < (a0.Client.Results.length:Int)) then ((idx s1.2.Client.Results s1.1).bind fun v6=> (idx s1.2.Client.Results s1.1).bind fun v8=> (bif (v8==0) then (idx s1.2.Client.Results s1.1).bind fun v11=> (idx s1.2.Client.Results s1.1).bind fun v13=> some ((zfa.mk ((zla.mk s1.2.Client.Name s1.2.Client.Mail s1.2.Client.Pipelined s1.2.Client.Buffer s1.2.Client.Expected s1.2.Client.Whole s1.2.Client.Done ((List.set s1.2.Client.Results (Int.toNat s1.1) a1)))) s1.2.content s1.2.chunk s1.2.out)) else some s1.2):Option zfa).bind fun (j5:zfa)=> some (.cont ((w64 (s1.1+1)),j5)) else some (.out s1.2))
noncomputable def kqa (a0:zfa) (a1:Int):Option zfa:=
 (iter (z4a a0 a1) ((0,a0))).bind fun b2=> some b2
def qca (a0:zfa) (s2:Int):Option (Step Int (Unit ⊕ Int)):=
 (bif decide (s2 < (a0.Client.Results.length:Int)) then (idx a0.Client.Results s2).bind fun v8=> (idx a0.Client.Results s2).bind fun v10=> (bif (0==v10) then some (.out (.inr s2)) else some (.cont (w64 (s2+1)))) else some (.out (.inl (()))))
noncomputable def kra (a0:zfa):Option (Bool × zfa):=
 ((iter (qca a0) 0).bind (Sum.elim (fun b3=> some ((-1))) (fun b4=> some b4)):Option Int).bind fun (j1:Int)=> some (((!(decide (0≤j1))),a0))
noncomputable def zFa (a0:zfa) (a1:zta):Option zfa:=
 (wAa a1).bind fun v1=> (app 140737488355328 a0.out v1.1).bind fun v3=> (app 140737488355328 v3 (([(13:UInt8),(10:UInt8)]:List UInt8))).bind fun v5=> some ((zfa.mk a0.Client a0.content a0.chunk v5))
noncomputable def zJa (a0:zfa) (a1:Int):Option zfa:=
 (kqa a0 a1).bind fun v1=> (zFa v1 ((zta.mk 8 (([]:Str)) (([]:Str)) 0 0 false))).bind fun v3=> some ((zfa.mk ((zla.mk v3.Client.Name v3.Client.Mail v3.Client.Pipelined v3.Client.Buffer v3.Client.Expected v3.Client.Whole true v3.Client.Results)) v3.content v3.chunk v3.out))
noncomputable def kLa (a0:zfa):Option zfa:=
 ((bif a0.Client.Whole then some 4 else some 2):Option Int).bind fun (j1:Int)=> (kqa a0 j1).bind fun v3=> some ((zfa.mk ((zla.mk v3.Client.Name v3.Client.Mail v3.Client.Pipelined v3.Client.Buffer v3.Client.Expected v3.Client.Whole true v3.Client.Results)) v3.content v3.chunk v3.out))
def z9a (a0:zfa):Option (Int × zfa):=
 some (((a0.Client.Mail.Envelope.To.length:Int),a0))
noncomputable def zMa (a0:zfa) (a1:Int):Option zfa:=
 (bif (a1==1) then (zFa a0 ((zta.mk 1 a0.Client.Name (([]:Str)) 0 0 false))).bind fun v2=> some v2 else (bif (a1==2) then (zFa a0 ((zta.mk 2 (([]:Str)) a0.Client.Mail.Envelope.From ((a0.content.length:Int)) 0 false))).bind fun v5=> some v5 else (z9a a0).bind fun v7=> (bif decide (a1 < (w64 (v7.1+3))) then (idx a0.Client.Mail.Envelope.To ((w64 (a1 - 3)))).bind fun v10=> (zFa v7.2 ((zta.mk 3 (([]:Str)) v10.Address 0 v10.Notify false))).bind fun v12=> some v12 else (bif v7.2.chunk then (zFa v7.2 ((zta.mk 5 (([]:Str)) (([]:Str)) ((v7.2.content.length:Int)) 0 true))).bind fun v15=> (app 140737488355328 v15.out v15.content).bind fun v17=> some ((zfa.mk ((zla.mk v15.Client.Name v15.Client.Mail v15.Client.Pipelined v15.Client.Buffer v15.Client.Expected true v15.Client.Done v15.Client.Results)) v15.content v15.chunk v17)) else (zFa v7.2 ((zta.mk 4 (([]:Str)) (([]:Str)) 0 0 false))).bind fun v19=> some v19))))
noncomputable def zXa (j4:Int × Bool) (s10:Int × zfa):Option (Step (Int × zfa) zfa):=
 (bif decide (s10.1≤j4.1) then (zMa s10.2 s10.1).bind fun v14=> some (.cont ((w64 (s10.1+1)),v14)) else some (.out s10.2))
noncomputable def kaa (a0:zfa):Option zfa:=
 (z9a ((zfa.mk ((zla.mk a0.Client.Name a0.Client.Mail a0.Client.Pipelined a0.Client.Buffer ((w64 (a0.Client.Expected+1))) a0.Client.Whole a0.Client.Done a0.Client.Results)) a0.content a0.chunk a0.out))).bind fun v1=> (((bif (!v1.2.Client.Pipelined) then some (((w64 (v1.1+3)),true)) else some (((w64 (v1.1+3)),(v1.2.Client.Expected==1)))):Option (Int × Bool)).bind fun (j4:Int × Bool)=> (bif j4.2 then (zMa v1.2 v1.2.Client.Expected).bind fun v7=> some ((j4.1,v7)) else (bif (v1.2.Client.Expected==2) then (iter (zXa j4) ((2,v1.2))).bind fun b11=> some ((j4.1,b11)) else some ((j4.1,v1.2)))):Option (Int × zfa)).bind fun (j3:Int × zfa)=> ((bif (j3.2.Client.Expected==j3.1) then some j3.2.chunk else some false):Option Bool).bind fun (j16:Bool)=> (bif j16 then some ((zfa.mk ((zla.mk j3.2.Client.Name j3.2.Client.Mail j3.2.Client.Pipelined j3.2.Client.Buffer ((w64 (j3.2.Client.Expected+1))) j3.2.Client.Whole j3.2.Client.Done j3.2.Client.Results)) j3.2.content j3.2.chunk j3.2.out)) else some j3.2)
def kPa (a0:Int):Option Int:=
 (bif (a0==5) then some 3 else some 2)
noncomputable def qva (a0:zfa) (a1:Int):Option zfa:=
 (bif (a1 !=3) then (kPa a1).bind fun v2=> (zJa a0 v2).bind fun v4=> some v4 else (kra a0).bind fun v6=> (bif v6.1 then some ((zfa.mk ((zla.mk v6.2.Client.Name v6.2.Client.Mail v6.2.Client.Pipelined v6.2.Client.Buffer v6.2.Client.Expected v6.2.Client.Whole true v6.2.Client.Results)) v6.2.content v6.2.chunk v6.2.out)) else (v4a v6.2.content).bind fun v9=> (app 140737488355328 v6.2.out v9.1).bind fun v11=> some ((zfa.mk ((zla.mk v6.2.Client.Name v6.2.Client.Mail v6.2.Client.Pipelined v6.2.Client.Buffer ((w64 (v6.2.Client.Expected+1))) true v6.2.Client.Done v6.2.Client.Results)) v6.2.content v6.2.chunk v11))))
noncomputable def kMa (a0:zfa) (a1:kba):Option zfa:=
 (yPa a1).bind fun v1=> (z9a a0).bind fun v3=> (bif decide (v3.2.Client.Expected < 3) then (bif (v1.1 !=2) then (kPa v1.1).bind fun v7=> (zJa v3.2 v7).bind fun v9=> some v9 else (kaa v3.2).bind fun v11=> some v11) else (bif decide (v3.2.Client.Expected < (w64 (v3.1+3))) then ((bif (v1.1 !=2) then (kPa v1.1).bind fun v16=> (idx v3.2.Client.Results ((w64 (v3.2.Client.Expected - 3)))).bind fun v18=> (idx v3.2.Client.Results ((w64 (v3.2.Client.Expected - 3)))).bind fun v20=> some (((w64 (v3.1+3)),(zfa.mk ((zla.mk v3.2.Client.Name v3.2.Client.Mail v3.2.Client.Pipelined v3.2.Client.Buffer v3.2.Client.Expected v3.2.Client.Whole v3.2.Client.Done ((List.set v3.2.Client.Results (Int.toNat ((w64 (v3.2.Client.Expected - 3)))) v16)))) v3.2.content v3.2.chunk v3.2.out))) else some (((w64 (v3.1+3)),v3.2))):Option (Int × zfa)).bind fun (j14:Int × zfa)=> ((bif (j14.2.Client.Expected==(w64 (j14.1 - 1))) then (bif (!j14.2.Client.Pipelined) then (kra j14.2).bind fun v25=> some ((v25.1,v25.2)) else some ((false,j14.2))) else some ((false,j14.2))):Option (Bool × zfa)).bind fun (j22:Bool × zfa)=> (bif j22.1 then (zJa j22.2 2).bind fun v28=> some v28 else (kaa j22.2).bind fun v30=> some v30) else (bif (v3.2.Client.Expected==(w64 (v3.1+3))) then (qva v3.2 v1.1).bind fun v33=> some v33 else (bif (v1.1==2) then (zJa v3.2 1).bind fun v36=> some v36 else (kPa v1.1).bind fun v38=> (zJa v3.2 v38).bind fun v40=> some v40))))
noncomputable def kna (a0:zfa) (s1:Int × (List Str)):Option (Step (Int × (List Str)) (Bool × zfa)):=
 (cut a0.Client.Buffer s1.1 ((a0.Client.Buffer.length:Int))).bind fun v4=> (vfa v4 (([(13:UInt8),(10:UInt8)]:List UInt8))).bind fun v6=> (bif decide (v6 < 0) then some (.out ((false,a0))) else (cut a0.Client.Buffer s1.1 ((w64 (s1.1+v6)))).bind fun v9=> (app 8796093022208 s1.2 (([v9]:List Str))).bind fun v11=> (yOa v11).bind fun v13=> ((bif decide (4000 < v6) then some (((w64 (s1.1+(w64 (v6+2)))),true)) else (bif (v13.2.2.Code !=0) then some (((w64 (s1.1+(w64 (v6+2)))),(v13.2.2.Code !=9))) else some (((w64 (s1.1+(w64 (v6+2)))),false)))):Option (Int × Bool)).bind fun (j15:Int × Bool)=> (bif j15.2 then (kLa a0).bind fun v19=> some (.out ((false,v19))) else (bif (v13.2.2.Code==0) then (cut a0.Client.Buffer j15.1 ((a0.Client.Buffer.length:Int))).bind fun v22=> (kMa ((zfa.mk ((zla.mk a0.Client.Name a0.Client.Mail a0.Client.Pipelined v22 a0.Client.Expected a0.Client.Whole a0.Client.Done a0.Client.Results)) a0.content a0.chunk a0.out)) v13.1).bind fun v24=> some (.out ((true,v24))) else some (.cont (j15.1,v11)))))
noncomputable def kNa (a0:zfa):Option (Bool × zfa):=
 (iter (kna a0) ((0,([]:List Str)))).bind fun b2=> some ((b2.1,b2.2))
noncomputable def wfa (a0:Str) (a1:kea):Option zza:=
 (wNa a0).bind fun v1=> (bif (!v1) then (zAa 10 ((-20))).bind fun v4=> some v4 else (vLa a1).bind fun v6=> some v6)
noncomputable def qNa (a0:kea):Option kea:=
 ((nilE a0.Envelope.To.isEmpty (some ([])) ((app 5864062014805 ([]:List zca) a0.Envelope.To).bind fun v3=> some v3)):Option (List zca)).bind fun (j1:List zca)=> (z8a a0.Message.Fields).bind fun v5=> ((nilE a0.Message.Body.isEmpty (some ([])) ((app 140737488355328 ([]:List UInt8) a0.Message.Body).bind fun v9=> some v9)):Option (List UInt8)).bind fun (j7:List UInt8)=> some ((kea.mk ((zKa.mk a0.Envelope.From j1 a0.Envelope.Id)) ((zxa.mk v5 j7))))
noncomputable def w8a (a0:Str) (a1:kea) (a2:Bool):Option (zla × zza):=
 (wfa a0 a1).bind fun v1=> (kka v1).bind fun v3=> (bif v3 then some (((zla.mk (([]:Str)) ((kea.mk ((zKa.mk (([]:Str)) ([]) (([]:Str)))) ((zxa.mk ([]) ([]))))) false ([]) 0 false false ([])),v1)) else (qNa a1).bind fun v6=> (zmk 17592186044416 ((a1.Envelope.To.length:Int)) (0:Int)).bind fun v8=> (z7a).bind fun v10=> some (((zla.mk a0 v6 a2 ([]) 0 false false v8),v10)))
noncomputable def qXa (a0:zxa):Option ((List UInt8) × Bool):=
 (wCa a0).bind fun v1=> (kRa v1.1 (([(13:UInt8),(10:UInt8)]:List UInt8))).bind fun v3=> some ((v1.1,(!v3)))
def vRa (a0:zla) (s13:Int):Option (Step Int (Unit ⊕ Bool)):=
 (bif decide (s13 < (a0.Results.length:Int)) then (idx a0.Results s13).bind fun v19=> ((bif decide (a0.Expected≤(w64 (s13+3))) then some ((v19 !=0)) else some false):Option Bool).bind fun (j21:Bool)=> (bif j21 then some (.out (.inr false)) else some (.cont (w64 (s13+1)))) else some (.out (.inl (()))))
noncomputable def y1a (a0:zla):Option Bool:=
 (qXa a0.Mail.Message).bind fun v1=> ((bif (a0.Expected==(w64 ((a0.Mail.Envelope.To.length:Int)+4))) then (bif (a0.Whole !=true) then some true else (bif v1.2 then some ((a0.Expected==(w64 ((a0.Mail.Envelope.To.length:Int)+3)))) else some false)) else (bif v1.2 then (bif a0.Pipelined then (bif (a0.Whole !=decide (2≤a0.Expected)) then some true else some ((a0.Expected==(w64 ((a0.Mail.Envelope.To.length:Int)+3))))) else (bif (a0.Whole !=false) then some true else some ((a0.Expected==(w64 ((a0.Mail.Envelope.To.length:Int)+3)))))) else (bif (a0.Whole !=false) then some true else some false))):Option Bool).bind fun (j3:Bool)=> (bif j3 then some false else (iter (vRa a0) 0).bind (Sum.elim (fun b14=> some true) (fun b15=> some b15)))
def vna (a0:zla) (s9:Int):Option (Step Int (Unit ⊕ Int)):=
 (bif decide (s9 < (a0.Results.length:Int)) then (idx a0.Results s9).bind fun v15=> ((bif decide (v15 < 0) then some true else some (decide (4 < v15))):Option Bool).bind fun (j17:Bool)=> (bif j17 then some (.out (.inr s9)) else some (.cont (w64 (s9+1)))) else some (.out (.inl (()))))
noncomputable def wga (a0:zla):Option zza:=
 (wfa a0.Name a0.Mail).bind fun v1=> (kka v1).bind fun v3=> (bif v3 then some v1 else ((bif ((a0.Results.length:Int) !=(a0.Mail.Envelope.To.length:Int)) then some true else ((iter (vna a0) 0).bind (Sum.elim (fun b10=> some ((-1))) (fun b11=> some b11)):Option Int).bind fun (j8:Int)=> (bif decide (0≤j8) then some true else (bif decide (a0.Expected < 0) then some true else (bif decide ((w64 ((a0.Mail.Envelope.To.length:Int)+4)) < a0.Expected) then some true else (bif decide (40000 < (a0.Buffer.length:Int)) then some true else (bif (!a0.Done) then (y1a a0).bind fun v25=> some ((!v25)) else some false)))))):Option Bool).bind fun (j6:Bool)=> (bif j6 then (zAa 5 ((-23))).bind fun v28=> some v28 else (z7a).bind fun v30=> some v30))
noncomputable def kza (a0:List Int):Option (List Int):=
 (nilE a0.isEmpty (some ([])) ((app 17592186044416 ([]:List Int) a0).bind fun v2=> some v2))
def kha (a0:List (List UInt8)) (s1:Int × Int):Option (Step (Int × Int) Int):=
 (bif decide (s1.2 < (a0.length:Int)) then (idx a0 s1.2).bind fun v5=> (bif decide ((w64 (s1.1+(v5.length:Int))) < 0) then none else some (.cont ((w64 (s1.1+(v5.length:Int))),(w64 (s1.2+1))))) else some (.out s1.1))
def kia (a0:List (List UInt8)) (s14:Int × (List UInt8)):Option (Step (Int × (List UInt8)) (List UInt8)):=
 (bif decide (s14.1 < (a0.length:Int)) then (idx a0 s14.1).bind fun v18=> (app 140737488355328 s14.2 v18).bind fun v20=> some (.cont ((w64 (s14.1+1)),v20)) else some (.out s14.2))
def kCa (a0:List (List UInt8)) (s22:Int × (List UInt8)):Option (Step (Int × (List UInt8)) (List UInt8)):=
 (bif decide (s22.1 < (a0.length:Int)) then (idx a0 s22.1).bind fun v26=> (app 140737488355328 s22.2 v26).bind fun v28=> some (.cont ((w64 (s22.1+1)),v28)) else some (.out s22.2))
noncomputable def kxa (a0:List (List UInt8)):Option (List UInt8):=
 (iter (kha a0) ((0,0))).bind fun b2=> (bif decide (b2 < 0) then none else (bif decide (0 < (w64 (b2 - (w64 (0 - 0))))) then (zrep 140737488355328 ((w64 (b2 - (w64 (0 - 0))))) ((0:UInt8):UInt8)).bind fun v10=> (cut v10 0 0).bind fun v12=> (iter (kia a0) ((0,v12))).bind fun b15=> some b15 else (iter (kCa a0) ((0,([]:List UInt8)))).bind fun b23=> some b23))
noncomputable def qoa (s17:zfa):Option (Step zfa zfa):=
 ((bif (!s17.Client.Done) then (kNa s17).bind fun v22=> some ((v22.1,v22.2)) else some ((false,s17))):Option (Bool × zfa)).bind fun (j20:Bool × zfa)=> (bif j20.1 then some (.cont j20.2) else some (.out j20.2))
noncomputable def v5a (a0:zla) (a1:List UInt8):Option (zla × (List UInt8) × zza):=
 (wga a0).bind fun v1=> (kka v1).bind fun v3=> (bif v3 then some (((zla.mk (([]:Str)) ((kea.mk ((zKa.mk (([]:Str)) ([]) (([]:Str)))) ((zxa.mk ([]) ([]))))) false ([]) 0 false false ([])), [],v1)) else (bif decide (40000 < (w64 ((a0.Buffer.length:Int)+(a1.length:Int)))) then (zAa 1 ((-1))).bind fun v7=> some (((zla.mk (([]:Str)) ((kea.mk ((zKa.mk (([]:Str)) ([]) (([]:Str)))) ((zxa.mk ([]) ([]))))) false ([]) 0 false false ([])), [],v7)) else (qNa a0.Mail).bind fun v9=> (kza a0.Results).bind fun v11=> (kxa (([a0.Buffer,a1]:List (List UInt8)))).bind fun v13=> (qXa v9.Message).bind fun v15=> (iter (qoa) ((zfa.mk ((zla.mk a0.Name v9 a0.Pipelined v13 a0.Expected a0.Whole a0.Done v11)) v15.1 v15.2 (([]:List UInt8))))).bind fun b18=> (((nilE b18.Client.Buffer.isEmpty (some ([])) ((app 140737488355328 ([]:List UInt8) b18.Client.Buffer).bind fun v28=> some v28)):Option (List UInt8)).bind fun (j26:List UInt8)=> (bif b18.Client.Done then some ((zfa.mk ((zla.mk b18.Client.Name b18.Client.Mail b18.Client.Pipelined ([]) b18.Client.Expected b18.Client.Whole b18.Client.Done b18.Client.Results)) b18.content b18.chunk b18.out)) else some ((zfa.mk ((zla.mk b18.Client.Name b18.Client.Mail b18.Client.Pipelined j26 b18.Client.Expected b18.Client.Whole b18.Client.Done b18.Client.Results)) b18.content b18.chunk b18.out))):Option zfa).bind fun (j25:zfa)=> (z7a).bind fun v31=> some ((j25.Client,j25.out,v31))))
noncomputable def wha (a0:zla):Option (zla × zza):=
 (wga a0).bind fun v1=> (kka v1).bind fun v3=> (bif v3 then some (((zla.mk (([]:Str)) ((kea.mk ((zKa.mk (([]:Str)) ([]) (([]:Str)))) ((zxa.mk ([]) ([]))))) false ([]) 0 false false ([])),v1)) else (qNa a0.Mail).bind fun v6=> (kza a0.Results).bind fun v8=> (kLa ((zfa.mk ((zla.mk a0.Name v6 a0.Pipelined ([]) a0.Expected a0.Whole a0.Done v8)) ([]) false (([]:List UInt8))))).bind fun v10=> (z7a).bind fun v12=> some ((v10.Client,v12)))
def jWa (a0:zla):Option Int:=
 (bif a0.Whole then some 4 else some 2)
def jXa (a0:zea) (a1:Int) (s1:Int × (List Int)):Option (Step (Int × (List Int)) (List Int)):=
 (bif decide (s1.1 < (a0.C.Results.length:Int)) then (idx a0.C.Results s1.1).bind fun v5=> ((bif (v5==0) then some a1 else some v5):Option Int).bind fun (j7:Int)=> (app 17592186044416 s1.2 (([j7]:List Int))).bind fun v9=> some (.cont ((w64 (s1.1+1)),v9)) else some (.out s1.2))
noncomputable def Qla (a0:zea) (a1:Int):Option zea:=
 (iter (jXa a0 a1) ((0,([]:List Int)))).bind fun b2=> some ((zea.mk ((zla.mk a0.C.Name a0.C.Mail a0.C.Pipelined ([]) a0.C.Expected a0.C.Whole true b2)) a0.Out))
def jta (a0:Int):Option Int:=
 (bif (a0==5) then some 3 else some 2)
def vGa (a0:zea) (a1:zta):Option zea:=
 (wBa a1).bind fun v1=> (app 140737488355328 a0.Out v1).bind fun v3=> (app 140737488355328 v3 (([(13:UInt8),(10:UInt8)]:List UInt8))).bind fun v5=> some ((zea.mk a0.C v5))
noncomputable def ysa (a0:zea) (a1:Int):Option zea:=
 (Qla a0 a1).bind fun v1=> (vGa v1 ((zta.mk 8 (([]:Str)) (([]:Str)) 0 0 false))).bind fun v3=> some v3
noncomputable def VWa (a0:zxa):Option Bool:=
 (k4a a0).bind fun v1=> ((idx v1 ((w64 ((v1.length:Int) - 2)))).bind fun v4=> (bif ((v4.toNat:Int) !=13) then some true else (idx v1 ((w64 ((v1.length:Int) - 1)))).bind fun v7=> some (((v7.toNat:Int) !=10))):Option Bool).bind fun (j3:Bool)=> some j3
noncomputable def VXa (a0:zea) (a1:Int):Option zea:=
 (k4a a0.C.Mail.Message).bind fun v1=> (bif (a1==1) then (vGa a0 ((zta.mk 1 a0.C.Name (([]:Str)) 0 0 false))).bind fun v4=> some v4 else (bif (a1==2) then (vGa a0 ((zta.mk 2 (([]:Str)) a0.C.Mail.Envelope.From ((v1.length:Int)) 0 false))).bind fun v7=> some v7 else (bif decide (a1 < (w64 ((a0.C.Mail.Envelope.To.length:Int)+3))) then (idx a0.C.Mail.Envelope.To ((w64 (a1 - 3)))).bind fun v10=> (idx a0.C.Mail.Envelope.To ((w64 (a1 - 3)))).bind fun v12=> (vGa a0 ((zta.mk 3 (([]:Str)) v10.Address 0 v12.Notify false))).bind fun v14=> some v14 else (VWa a0.C.Mail.Message).bind fun v16=> (bif (!v16) then (vGa a0 ((zta.mk 4 (([]:Str)) (([]:Str)) 0 0 false))).bind fun v19=> some v19 else (vGa a0 ((zta.mk 5 (([]:Str)) (([]:Str)) ((v1.length:Int)) 0 true))).bind fun v21=> (app 140737488355328 v21.Out v1).bind fun v23=> some ((zea.mk ((zla.mk v21.C.Name v21.C.Mail v21.C.Pipelined v21.C.Buffer v21.C.Expected true v21.C.Done v21.C.Results)) v23))))))
noncomputable def wPa (a0:zea) (s8:Int × zea):Option (Step (Int × zea) zea):=
 (bif decide (s8.1≤(w64 ((a0.C.Results.length:Int)+3))) then (VXa s8.2 s8.1).bind fun v12=> some (.cont ((w64 (s8.1+1)),v12)) else some (.out s8.2))
noncomputable def Vza (a0:zea):Option zea:=
 (((bif (!a0.C.Pipelined) then some ((true,(zea.mk ((zla.mk a0.C.Name a0.C.Mail a0.C.Pipelined a0.C.Buffer ((w64 (a0.C.Expected+1))) a0.C.Whole a0.C.Done a0.C.Results)) a0.Out))) else some ((((w64 (a0.C.Expected+1))==1),(zea.mk ((zla.mk a0.C.Name a0.C.Mail a0.C.Pipelined a0.C.Buffer ((w64 (a0.C.Expected+1))) a0.C.Whole a0.C.Done a0.C.Results)) a0.Out)))):Option (Bool × zea)).bind fun (j2:Bool × zea)=> (bif j2.1 then (VXa j2.2 j2.2.C.Expected).bind fun v5=> some v5 else (bif (j2.2.C.Expected==2) then (iter (wPa a0) ((2,j2.2))).bind fun b9=> some b9 else some j2.2)):Option zea).bind fun (j1:zea)=> (((bif (j1.C.Expected==(w64 ((a0.C.Results.length:Int)+3))) then (VWa j1.C.Mail.Message).bind fun v17=> some v17 else some false):Option Bool).bind fun (j15:Bool)=> (bif j15 then some ((zea.mk ((zla.mk j1.C.Name j1.C.Mail j1.C.Pipelined j1.C.Buffer ((w64 ((a0.C.Results.length:Int)+4))) j1.C.Whole j1.C.Done j1.C.Results)) j1.Out)) else some j1):Option zea).bind fun (j14:zea)=> some j14
def yta (a0:zla) (s1:Int):Option (Step Int (Unit ⊕ Bool)):=
 (bif decide (s1 < (a0.Results.length:Int)) then (idx a0.Results s1).bind fun v7=> (bif (v7==0) then some (.out (.inr true)) else some (.cont (w64 (s1+1)))) else some (.out (.inl (()))))
noncomputable def yya (a0:zla):Option Bool:=
 (iter (yta a0) 0).bind (Sum.elim (fun b2=> some false) (fun b3=> some b3))
noncomputable def KCa (a0:zea) (a1:Int):Option zea:=
 (bif decide (a0.C.Expected≤2) then (bif (a1 !=2) then (jta a1).bind fun v3=> (ysa a0 v3).bind fun v5=> some v5 else (Vza a0).bind fun v7=> some v7) else (bif decide (a0.C.Expected≤(w64 ((a0.C.Results.length:Int)+2))) then ((bif (a1 !=2) then (app 17592186044416 (([]:List Int)) a0.C.Results).bind fun v12=> (jta a1).bind fun v14=> (idx v12 ((w64 (a0.C.Expected - 3)))).bind fun v16=> (idx v12 ((w64 (a0.C.Expected - 3)))).bind fun v18=> some ((zea.mk ((zla.mk a0.C.Name a0.C.Mail a0.C.Pipelined a0.C.Buffer a0.C.Expected a0.C.Whole a0.C.Done ((List.set v12 (Int.toNat ((w64 (a0.C.Expected - 3)))) v14)))) a0.Out)) else some a0):Option zea).bind fun (j10:zea)=> ((bif (a0.C.Expected==(w64 ((a0.C.Results.length:Int)+2))) then (bif (!j10.C.Pipelined) then (yya j10.C).bind fun v23=> some ((!v23)) else some false) else some false):Option Bool).bind fun (j20:Bool)=> (bif j20 then (ysa j10 2).bind fun v26=> some v26 else (Vza j10).bind fun v28=> some v28) else (bif (a0.C.Expected==(w64 ((a0.C.Results.length:Int)+3))) then (bif (a1 !=3) then (jta a1).bind fun v32=> (ysa a0 v32).bind fun v34=> some v34 else (yya a0.C).bind fun v36=> (bif (!v36) then (Qla a0 2).bind fun v39=> some v39 else (k4a a0.C.Mail.Message).bind fun v41=> (Jba v41).bind fun v43=> (app 140737488355328 a0.Out v43).bind fun v45=> some ((zea.mk ((zla.mk a0.C.Name a0.C.Mail a0.C.Pipelined a0.C.Buffer ((w64 ((a0.C.Results.length:Int)+4))) true a0.C.Done a0.C.Results)) v45)))) else (bif (a1==2) then (ysa a0 1).bind fun v48=> some v48 else (jta a1).bind fun v50=> (ysa a0 v50).bind fun v52=> some v52))))
def y2a (s13:Bool × Int × Int × zea × (List UInt8)) (j21:Bool × Int × zea × (List UInt8)):Option (Step (Bool × Int × Int × zea × (List UInt8)) ((Bool × zea × (List UInt8)) ⊕ zea)):=
 some (.cont (j21.1,j21.2.1,(w64 (s13.2.2.1+1)),j21.2.2.1,j21.2.2.2))
noncomputable def qpa (v11:(List Str) × (List UInt8)) (s13:Bool × Int × Int × zea × (List UInt8)):Option (Step (Bool × Int × Int × zea × (List UInt8)) ((Bool × zea × (List UInt8)) ⊕ zea)):=
 ((bif decide (s13.2.2.1 < (v11.1.length:Int)) then some ((!s13.1)) else some false):Option Bool).bind fun (j18:Bool)=> (bif j18 then (idx v11.1 s13.2.2.1).bind fun v22=> (cut v11.1 0 ((w64 (s13.2.2.1+1)))).bind fun v24=> (Z3a v24).bind fun v26=> ((idx v11.1 s13.2.2.1).bind fun v29=> (bif decide (4000 < (v29.length:Int)) then some (((w64 ((w64 (s13.2.1+(v22.length:Int)))+2)),true)) else (bif (v26.2.2.Code !=0) then some (((w64 ((w64 (s13.2.1+(v22.length:Int)))+2)),(v26.2.2.Code !=9))) else some (((w64 ((w64 (s13.2.1+(v22.length:Int)))+2)),false)))):Option (Int × Bool)).bind fun (j28:Int × Bool)=> (bif j28.2 then (jWa s13.2.2.2.1.C).bind fun v34=> (Qla s13.2.2.2.1 v34).bind fun v36=> some (.out (.inr v36)) else (bif (v26.2.2.Code==0) then (cut s13.2.2.2.2 j28.1 ((s13.2.2.2.2.length:Int))).bind fun v39=> (KCa s13.2.2.2.1 ((iQuo v26.1.Code 100))).bind fun v41=> (y2a s13 (true,j28.1,v41,v39)) else (y2a s13 (s13.1,j28.1,s13.2.2.2.1,s13.2.2.2.2)))) else some (.out (.inl ((s13.1,s13.2.2.2.1,s13.2.2.2.2)))))
noncomputable def qqa (s5:zea × (List UInt8)):Option (Step (zea × (List UInt8)) (zea ⊕ zea)):=
 (bif (!s5.1.C.Done) then (Vya s5.2).bind fun v11=> (iter (qpa v11) ((false,0,0,s5.1,s5.2))).bind (Sum.elim (fun b14=> (bif (!b14.1) then some (.out (.inr ((zea.mk ((zla.mk b14.2.1.C.Name b14.2.1.C.Mail b14.2.1.C.Pipelined b14.2.2 b14.2.1.C.Expected b14.2.1.C.Whole b14.2.1.C.Done b14.2.1.C.Results)) b14.2.1.Out)))) else some (.cont (b14.2.1,b14.2.2)))) (fun b15=> some (.out (.inr b15)))) else some (.out (.inl s5.1)))
noncomputable def QRa (a0:zla) (a1:List UInt8):Option zea:=
 (app 140737488355328 (([]:List UInt8)) a0.Buffer).bind fun v1=> (app 140737488355328 v1 a1).bind fun v3=> (iter (qqa) (((zea.mk a0 (([]:List UInt8))),v3))).bind (Sum.elim (fun b6=> some ((zea.mk ((zla.mk b6.C.Name b6.C.Mail b6.C.Pipelined ([]) b6.C.Expected b6.C.Whole b6.C.Done b6.C.Results)) b6.Out))) (fun b7=> some b7))
def VYa (a0:zea) (a1:Int) (s1:Int × (List Int)):Option (Step (Int × (List Int)) (List Int)):=
 (bif decide (s1.1 < (a0.C.Results.length:Int)) then (idx a0.C.Results s1.1).bind fun v5=> ((bif (v5==0) then some a1 else some v5):Option Int).bind fun (j7:Int)=> (app 17592186044416 s1.2 (([j7]:List Int))).bind fun v9=> some (.cont ((w64 (s1.1+1)),v9)) else some (.out s1.2))
noncomputable def QSa (a0:zea) (a1:Int):Option zea:=
 (iter (VYa a0 a1) ((0,([]:List Int)))).bind fun b2=> some ((zea.mk ((zla.mk a0.C.Name a0.C.Mail a0.C.Pipelined ([]) a0.C.Expected a0.C.Whole true b2)) a0.Out))
noncomputable def Z4a (a0:zla):Option zla:=
 (jWa a0).bind fun v1=> (QSa ((zea.mk a0 ([]))) v1).bind fun v3=> some v3.C
def qGa (a0:zla) (s14:Bool × Int):Option (Step (Bool × Int) Bool):=
 (bif decide (s14.2 < (a0.Results.length:Int)) then ((bif s14.1 then some true else (idx a0.Results s14.2).bind fun v20=> (R_In v20 0 4).bind fun v22=> (bif (!v22) then some true else (bif (!a0.Done) then (bif decide (a0.Expected≤(w64 (s14.2+3))) then (idx a0.Results s14.2).bind fun v27=> some ((v27 !=0)) else some false) else some false))):Option Bool).bind fun (j18:Bool)=> some (.cont (j18,(w64 (s14.2+1)))) else some (.out s14.1))
noncomputable def vSa (a0:zla):Option zza:=
 (Kza a0.Name).bind fun v1=> (bif (!v1) then (R_At 10 ((-20))).bind fun v4=> some v4 else (yNa a0.Mail).bind fun v6=> (bif (v6.Code !=0) then some v6 else ((bif ((a0.Results.length:Int) !=(a0.Mail.Envelope.To.length:Int)) then some true else (R_In a0.Expected 0 ((w64 ((a0.Mail.Envelope.To.length:Int)+4)))).bind fun v11=> (bif (!v11) then some true else some (decide (40000 < (a0.Buffer.length:Int))))):Option Bool).bind fun (j9:Bool)=> (iter (qGa a0) ((j9,0))).bind fun b15=> (VWa a0.Mail.Message).bind fun v29=> ((bif (a0.Expected==(w64 ((a0.Mail.Envelope.To.length:Int)+4))) then some true else (bif v29 then (bif a0.Pipelined then some (decide (2≤a0.Expected)) else some false) else some false)):Option Bool).bind fun (j31:Bool)=> (((bif (!a0.Done) then (bif (a0.Whole !=j31) then some true else (bif v29 then some ((a0.Expected==(w64 ((a0.Mail.Envelope.To.length:Int)+3)))) else some false)) else some false):Option Bool).bind fun (j36:Bool)=> (bif j36 then some true else some b15):Option Bool).bind fun (j35:Bool)=> (bif j35 then (R_At 5 ((-23))).bind fun v42=> some v42 else some v6)))
def QTa (a0:List Int) (a1:List Int) (s2:Int):Option (Step Int (Unit ⊕ Bool)):=
 (bif decide (s2 < (a0.length:Int)) then (idx a0 s2).bind fun v8=> (idx a1 s2).bind fun v10=> (bif (v8 !=v10) then some (.out (.inr false)) else some (.cont (w64 (s2+1)))) else some (.out (.inl (()))))
noncomputable def Jca (a0:List Int) (a1:List Int):Option Bool:=
 (bif ((a0.length:Int) !=(a1.length:Int)) then some false else (iter (QTa a0 a1) 0).bind (Sum.elim (fun b3=> some true) (fun b4=> some b4)))
noncomputable def z5a (a0:zla) (a1:zla):Option Bool:=
 ((bif (a0.Name==a1.Name) then (bif (a0.Pipelined==a1.Pipelined) then (bif (a0.Expected==a1.Expected) then (bif (a0.Whole==a1.Whole) then (bif (a0.Done==a1.Done) then (bif (a0.Buffer==a1.Buffer) then (Jca a0.Results a1.Results).bind fun v8=> (bif v8 then (jUa a0.Mail a1.Mail).bind fun v11=> some v11 else some false) else some false) else some false) else some false) else some false) else some false) else some false):Option Bool).bind fun (j1:Bool)=> some j1
def Zla (a0:List Str) (s1:Int × (List zca)):Option (Step (Int × (List zca)) (List zca)):=
 (bif decide (s1.1 < (a0.length:Int)) then (idx a0 s1.1).bind fun v5=> (app 5864062014805 s1.2 (([(zca.mk v5 1)]:List zca))).bind fun v7=> some (.cont ((w64 (s1.1+1)),v7)) else some (.out s1.2))
noncomputable def QUa (a0:List Str):Option kea:=
 (iter (Zla a0) ((0,([]:List zca)))).bind fun b2=> some ((kea.mk ((zKa.mk (([115,64,120]:Str)) b2 (([55]:Str)))) ((zxa.mk ([]) ([])))))
noncomputable def KDa:Option Bool:=
 (QUa (([([97,64,121]:Str)]:List Str))).bind fun v1=> (w8a (([99]:Str)) v1 false).bind fun v3=> (v5a v3.1 (([(50:UInt8),(50:UInt8),(48:UInt8),(32:UInt8),(109:UInt8),(120:UInt8),(13:UInt8),(10:UInt8)]:List UInt8))).bind fun v5=> (v5a v5.1 (([(50:UInt8),(53:UInt8),(48:UInt8),(45:UInt8),(109:UInt8),(120:UInt8),(13:UInt8),(10:UInt8),(50:UInt8),(53:UInt8),(48:UInt8),(32:UInt8),(111:UInt8),(107:UInt8),(13:UInt8),(10:UInt8)]:List UInt8))).bind fun v7=> (wha v7.1).bind fun v9=> ((bif (v3.2.Code==0) then (bif (v5.2.2.Code==0) then (bif (v7.2.2.Code==0) then (bif (v9.2.Code==0) then (bif (v5.2.1==([104,101,108,108,111,32,99,13,10]:Str)) then (bif (v7.2.1==([109,97,105,108,32,60,115,64,120,62,32,115,105,122,101,61,50,13,10]:Str)) then (bif (v5.1.Expected==1) then (bif v9.1.Done then (Jca v9.1.Results (([2]:List Int))).bind fun v20=> some v20 else some false) else some false) else some false) else some false) else some false) else some false) else some false) else some false):Option Bool).bind fun (j11:Bool)=> some j11
noncomputable def qwa (a0:zla) (a1:List UInt8):Option Bool:=
 (vSa a0).bind fun v1=> (wha a0).bind fun v3=> (v5a a0 a1).bind fun v5=> ((KDa).bind fun v8=> (bif (!v8) then some true else (bif (!(q7a [(v3.2.Code==v1.Code),(v3.2.Index==v1.Index)])) then some true else some ((v1.Code !=0)))):Option Bool).bind fun (j7:Bool)=> (bif j7 then ((KDa).bind fun v14=> (bif v14 then (bif (q7a [(v3.2.Code==v1.Code),(v3.2.Index==v1.Index)]) then (bif (q7a [(v5.2.2.Code==v1.Code),(v5.2.2.Index==v1.Index)]) then (bif ((v5.2.1.length:Int)==0) then (z5a v5.1 ((zla.mk (([]:Str)) ((kea.mk ((zKa.mk (([]:Str)) ([]) (([]:Str)))) ((zxa.mk ([]) ([]))))) false ([]) 0 false false ([])))).bind fun v20=> (bif v20 then (z5a v3.1 ((zla.mk (([]:Str)) ((kea.mk ((zKa.mk (([]:Str)) ([]) (([]:Str)))) ((zxa.mk ([]) ([]))))) false ([]) 0 false false ([])))).bind fun v23=> some v23 else some false) else some false) else some false) else some false) else some false):Option Bool).bind fun (j13:Bool)=> some j13 else (Z4a a0).bind fun v25=> (z5a v3.1 v25).bind fun v27=> (bif (!v27) then some false else (bif decide (40000 < (w64 ((a0.Buffer.length:Int)+(a1.length:Int)))) then ((R_At 1 ((-1))).bind fun v32=> (bif (q7a [(v5.2.2.Code==v32.Code),(v5.2.2.Index==v32.Index)]) then (bif ((v5.2.1.length:Int)==0) then (z5a v5.1 ((zla.mk (([]:Str)) ((kea.mk ((zKa.mk (([]:Str)) ([]) (([]:Str)))) ((zxa.mk ([]) ([]))))) false ([]) 0 false false ([])))).bind fun v36=> some v36 else some false) else some false):Option Bool).bind fun (j31:Bool)=> some j31 else (QRa a0 a1).bind fun v38=> ((bif (v5.2.2.Code==0) then (z5a v5.1 v38.C).bind fun v42=> (bif v42 then some ((v5.2.1==v38.Out)) else some false) else some false):Option Bool).bind fun (j40:Bool)=> some j40)))
end Go.Proofs.YtjnmamghadpedaaGreatDoor
namespace Go.Proofs.YtjnmamghadpedaaGreatDoor
open Go.RowKit
theorem VZa (a b:Nat) (h:a+b≤9223372036854775807):w64 ((a:Int)+(b:Int))=((a+b:Nat):Int):=by
 rw [z0a (by omega) (by omega)];simp
theorem Jda (a k:Nat) (h:a+OfNat.ofNat k≤9223372036854775807):w64 ((a:Int)+(no_index (OfNat.ofNat k:Int)))=((a+OfNat.ofNat k:Nat):Int):=by
 have e:(OfNat.ofNat k:Int)=((OfNat.ofNat k:Nat):Int):=rfl
 rw [e];exact VZa a _ h
theorem wFb (a b:Nat) (h:b≤a) (ha:a≤9223372036854775807):w64 ((a:Int) - (b:Int))=((a - b:Nat):Int):=by
 rw [z0a (by omega) (by omega)];omega
theorem wGb (a k:Nat) (h:OfNat.ofNat k≤a) (ha:a≤9223372036854775807):w64 ((a:Int) - (no_index (OfNat.ofNat k:Int)))=((a - OfNat.ofNat k:Nat):Int):=by
 have e:(OfNat.ofNat k:Int)=((OfNat.ofNat k:Nat):Int):=rfl
 rw [e];exact wFb a _ h ha
theorem zNb (a:Nat) (h:a≤9223372036854775807):w64 (a:Int)=(a:Int):=z0a (by omega) (by omega)
theorem v6a (c:UInt8) (k:Nat) (hk:OfNat.ofNat k < 256):((c.toNat:Int)==no_index (OfNat.ofNat k:Int))=(c==OfNat.ofNat k):=by
 have e:(OfNat.ofNat k:Int)=((OfNat.ofNat k:Nat):Int):=rfl
 have h2:(OfNat.ofNat k:UInt8).toNat=(OfNat.ofNat k:Nat):=by
  show (UInt8.ofNat k).toNat=k
  rw [UInt8.toNat_ofNat'];exact Nat.mod_eq_of_lt hk
 rw [Bool.eq_iff_iff,beq_iff_eq,beq_iff_eq,←UInt8.toNat_inj,h2,e]
 omega
theorem Qma (c:UInt8) (k:Nat) (hk:OfNat.ofNat k < 256):((c.toNat:Int) !=no_index (OfNat.ofNat k:Int))=(c !=OfNat.ofNat k):=by
 unfold bne;rw [v6a c k hk]
section
variable {α:Type}
theorem yga (l:List α) (i:Nat):idx l (i:Int)=l[i]? :=by unfold idx;rw [if_pos (by omega)];simp
theorem idx_lit (l:List α) (k:Nat):idx l (no_index (OfNat.ofNat k:Int))=l[(OfNat.ofNat k:Nat)]? :=yga l k
theorem QVa {l:List α} {i:Nat} (h:i < l.length):idx l (i:Int)=some l[i]:=by rw [yga];exact List.getElem?_eq_getElem h
theorem JWa (p:List α) (x:α) (r:List α):idx (p++x::r) (p.length:Int)=some x:=by rw [yga];simp
theorem zOb {l:List α} {a b:Nat} (h1:a≤b) (h2:b≤l.length):cut l (a:Int) (b:Int)=some ((l.drop a).take (b - a)):=by
 unfold cut;rw [if_pos (by omega)];simp
theorem y3a {l:List α} {a:Nat} (h1:a≤l.length):cut l (a:Int) (l.length:Int)=some (l.drop a):=by
 rw [zOb h1 (Nat.le_refl _)];rw [List.take_of_length_le (by simp)]
theorem QWa {l:List α} {b:Nat} (h2:b≤l.length):cut l 0 (b:Int)=some (l.take b):=by
 have:=zOb (l:=l) (a:=0) (b:=b) (by omega) h2
 simpa using this
theorem koa {lim:Nat} {l xs:List α} (h:l.length+xs.length≤lim):app lim l xs=some (l++xs):=by unfold app;rw [if_pos h]
theorem kZa {a b:Str} (h:a.length+b.length≤9223372036854775807):cat a b=some (a++b):=by unfold cat;rw [if_pos h]
end
section
variable {A R:Type} {body:A→Option (Step A R)}
theorem JXa (Inv:A→Prop) (m:A→Nat) (Post:A→R→Prop)
  (h:∀s,Inv s→(∃r,body s=some (.out r)∧Post s r)∨∃s',body s=some (.cont s')∧Inv s' ∧m s' < m s∧∀r,Post s' r→Post s r):
  ∀s,Inv s→∃r,iter body s=some r∧Post s r:=by
 intro s
 induction hn:m s using Nat.strongRecOn generalizing s with
 | _ n ih=>
  intro hi
  rcases h s hi with ⟨r,h1,h2⟩ | ⟨s',h1,h2,h3,h4⟩
  ·exact ⟨r,zHa h1,h2⟩
  ·obtain ⟨r,h5,h6⟩:=ih (m s') (by omega) s' rfl h2
   exact ⟨r,(zOa h1).trans h5,h4 r h6⟩
theorem wHb {α S:Type} (l:List α) (enc:Nat→S→A) (spec:Nat→List α→S→R)
  (h0:∀s,body (enc l.length s)=some (.out (spec l.length [] s)))
  (h1:∀p x r s,l=p++x::r→(body (enc p.length s)=some (.out (spec p.length (x::r) s)))∨∃s',body (enc p.length s)=some (.cont (enc (p.length+1) s'))∧spec p.length (x::r) s=spec (p.length+1) r s'):
  ∀{s0:A} (s:S) (_:s0=enc 0 s),iter body s0=some (spec 0 l s):=by
 have key:∀r p s,l=p++r→iter body (enc p.length s)=some (spec p.length r s):=by
  intro r
  induction r with
  | nil=>
   intro p s h
   have:p=l:=by simp [h]
   subst this
   exact zHa (h0 s)
  | cons x r ih=>
   intro p s h
   rcases h1 p x r s h with hb | ⟨s',hb,hs⟩
   ·exact zHa hb
   ·rw [zOa hb,hs]
    have:=ih (p++ [x]) s' (by simp [h])
    simpa using this
 rintro _ s rfl
 exact key l [] s rfl
theorem Jea {α S:Type} (l:List α) (enc:Nat→S→A) (spec:Nat→List α→S→R) (Inv:Nat→List α→S→Prop)
  (h0:∀s,Inv l.length [] s→body (enc l.length s)=some (.out (spec l.length [] s)))
  (h1:∀p x r s,l=p++x::r→Inv p.length (x::r) s→(body (enc p.length s)=some (.out (spec p.length (x::r) s)))∨∃s',body (enc p.length s)=some (.cont (enc (p.length+1) s'))∧spec p.length (x::r) s=spec (p.length+1) r s' ∧Inv (p.length+1) r s'):
  ∀{s0:A} (s:S) (_:s0=enc 0 s) (_:Inv 0 l s),iter body s0=some (spec 0 l s):=by
 have key:∀r p s,l=p++r→Inv p.length r s→iter body (enc p.length s)=some (spec p.length r s):=by
  intro r
  induction r with
  | nil=>
   intro p s h hi
   have:p=l:=by simp [h]
   subst this
   exact zHa (h0 s hi)
  | cons x r ih=>
   intro p s h hi
   rcases h1 p x r s h hi with hb | ⟨s',hb,hs,hi'⟩
   ·exact zHa hb
   ·rw [zOa hb,hs]
    have:=ih (p++ [x]) s' (by simp [h]) (by simpa using hi')
    simpa using this
 rintro _ s rfl hi
 exact key l [] s rfl hi
theorem kZb {α:Type} (p:List α) (x:α) (r:List α):(p++x::r)[p.length]? =some x:=by simp
end
end Go.Proofs.YtjnmamghadpedaaGreatDoor
namespace Go.Proofs.YtjnmamghadpedaaGreatDoor
open Go.RowKit
section
variable {α R O A S:Type}
def zUa (q:Nat→α→Option R):Nat→List α→Option R
 | _, []=> none
 | i,x::r=> match q i x with | some y=> some y | none=> zUa q (i+1) r
theorem zQa (l:List α) (q:Nat→α→Option R) (oN:O) (oS:R→O) {body:Int→Option (Step Int O)} (hl:body (l.length:Int)=some (.out oN))
  (hs:∀(i:Nat) x,l[i]? =some x→body (i:Int)=some ((q i x).elim (.cont ((i+1:Nat):Int)) fun r=> .out (oS r))):
  iter body 0=some ((zUa q 0 l).elim oN oS):=by
 have key:∀r p,l=p++r→iter body (p.length:Int)=some ((zUa q p.length r).elim oN oS):=by
  intro r
  induction r with
  | nil=>
     intro p h;have:p=l:=by simp [h]
     subst this;exact zHa hl
  | cons x r ih=>
   intro p h
   have hx:=hs p.length x (by simp [h])
   unfold zUa
   cases hq:q p.length x with
   | some y=> rw [hq] at hx;exact zHa hx
   | none=>
    rw [hq] at hx
    rw [zOa hx]
    have:=ih (p++ [x]) (by simp [h])
    simpa using this
 exact key l [] rfl
theorem Jfa (l:List α) (enc:Int→S→A) (f:Nat→S→α→S) (out:S→O) (Inv:Nat→S→Prop) {body:A→Option (Step A O)}
  (hl:∀s,Inv l.length s→body (enc l.length s)=some (.out (out s)))
  (hs:∀(i:Nat) x s,l[i]? =some x→Inv i s→body (enc i s)=some (.cont (enc ((i+1:Nat):Int) (f i s x)))∧Inv (i+1) (f i s x)) (s:S) (h0:Inv 0 s):
  ∃t,iter body (enc 0 s)=some (out t)∧Inv l.length t∧t=(l.zipIdx.foldl (fun s p=> f p.2 s p.1) s):=by
 have key:∀r p s,l=p++r→Inv p.length s→∃t,iter body (enc (p.length:Int) s)=some (out t)∧Inv l.length t∧t=((r.zipIdx p.length).foldl (fun s p=> f p.2 s p.1) s):=by
  intro r
  induction r with
  | nil=>
    intro p s h hi;have:p=l:=by simp [h]
    subst this;exact ⟨s,zHa (hl s hi),hi,rfl⟩
  | cons x r ih=>
   intro p s h hi
   obtain ⟨h1,h2⟩:=hs p.length x s (by simp [h]) hi
   rw [zOa h1]
   obtain ⟨t,h3,h4,h5⟩:=ih (p++ [x]) (f p.length s x) (by simp [h]) (by simpa using h2)
   refine ⟨t,by simpa using h3,h4, ?_⟩
   rw [h5];simp
 exact key l [] s rfl h0
theorem zPb (f:S→α→S) (l:List α):∀(n:Nat) (s:S),(l.zipIdx n).foldl (fun s p=> f s p.1) s=l.foldl f s:=by
 induction l with
 | nil=> intro n s;rfl
 | cons x r ih=> intro n s;simp [ih]
theorem WWa (l:List α) (enc:Int→S→A) (f:S→α→S) (out:S→O) (Inv:Nat→S→Prop) {body:A→Option (Step A O)}
  (hl:∀s,Inv l.length s→body (enc l.length s)=some (.out (out s)))
  (hs:∀(i:Nat) x s,l[i]? =some x→Inv i s→body (enc i s)=some (.cont (enc ((i+1:Nat):Int) (f s x)))∧Inv (i+1) (f s x)) (s:S) (h0:Inv 0 s):
  iter body (enc 0 s)=some (out (l.foldl f s))∧Inv l.length (l.foldl f s):=by
 obtain ⟨t,h1,h2,h3⟩:=Jfa l enc (fun _=> f) out Inv hl hs s h0
 have:t=l.foldl f s:=by rw [h3];exact zPb f l 0 s
 subst this
 exact ⟨h1,h2⟩
theorem wia (c:α→Bool) (r:R) (l:List α) (n:Nat):zUa (fun _ x=> if c x then some r else none) n l=if l.any c then some r else none:=by
 induction l generalizing n with
 | nil=> rfl
 | cons x l ih=> unfold zUa;cases h:c x <;> simp [h,ih]
theorem v7a {q:Nat→α→Option R} {l:List α} {n:Nat}:zUa q n l=none↔∀(i:Nat) x,l[i]? =some x→q (n+i) x=none:=by
 induction l generalizing n with
 | nil=> simp [zUa]
 | cons x l ih=>
  unfold zUa
  cases h:q n x with
  | some y=>
   simp only [reduceCtorEq,false_iff]
   intro hh
   have:=hh 0 x rfl
   rw [Nat.add_zero,h] at this;cases this
  | none=>
   rw [ih]
   constructor
   ·intro hh i y hy
    cases i with
    | zero=> simp at hy;subst hy;exact h
    | succ i=> rw [show n+(i+1)=n+1+i by omega];exact hh i y (by simpa using hy)
   ·intro hh i y hy
    rw [show n+1+i=n+(i+1) by omega];exact hh (i+1) y (by simpa using hy)
theorem Zma {q:Nat→α→Option R} {l:List α} {n:Nat} {r:R} (h:zUa q n l=some r):∃(i:Nat) (x:α),l[i]? =some x∧q (n+i) x=some r:=by
 induction l generalizing n with
 | nil=> cases h
 | cons x l ih=>
  unfold zUa at h
  cases hq:q n x with
  | some y=> rw [hq] at h;cases h;exact ⟨0,x,rfl,hq⟩
  | none=>
   rw [hq] at h
   obtain ⟨i,y,h1,h2⟩:=ih h
   exact ⟨i+1,y,by simpa using h1,by rw [show n+(i+1)=n+1+i by omega];exact h2⟩
theorem kca {l:List α} {i:Nat} {x:α} (h:l[i]? =some x):i < l.length:=(List.getElem?_eq_some_iff.1 h).1
theorem kAa {l:List α} {i:Nat} {x:α} (h:l[i]? =some x):decide ((i:Int) < (l.length:Int))=true:=by have:=kca h;simp;omega
theorem z1a (l:List α):decide ((l.length:Int) < (l.length:Int))=false:=by simp
theorem zYa {l:List α} {i:Nat} {x:α} (h:l[i]? =some x):idx l (i:Int)=some x:=by rw [yga];exact h
end
end Go.Proofs.YtjnmamghadpedaaGreatDoor
namespace Go.Proofs.YtjnmamghadpedaaGreatDoor
open Go.RowKit
theorem WXa {α:Type} (c:α→Bool) (l:List α):∀n:Nat,decide ((0:Int)≤(zUa (fun i x=> if c x then some ((i:Nat):Int) else none) n l).getD (-1))=l.any c:=by
 induction l with
 | nil=> intro n;rfl
 | cons x l ih=>
  intro n
  unfold zUa
  cases hc:c x with
  | true=> simp [hc]
  | false=> simp only [Bool.false_eq_true,if_false,List.any_cons,hc,Bool.false_or];exact ih (n+1)
theorem Wva (o:Option Int):Sum.elim (fun _=> some (-1)) (fun b=> some b) (o.elim (Sum.inl ()) Sum.inr:Unit ⊕ Int)=some (o.getD (-1)):=by cases o <;> rfl
theorem sc (i:Nat) (h:i < 9223372036854775807):w64 ((i:Int)+1)=((i+1:Nat):Int):=by rw [show ((i:Int)+1)=((i+1:Nat):Int) by omega,zNb _ (by omega)]
theorem bkL_pos {T:Type} (bk:T→Nat) (l:List T):1≤bkL bk l:=by
 induction l with
 | nil=> simp [bkL]
 | cons y l ih=> unfold bkL;omega
theorem wIb {T:Type} {bk:T→Nat} {l:List T} {x:T} (h:x∈l):bk x+1≤bkL bk l:=by
 induction l with
 | nil=> cases h
 | cons y l ih=>
  unfold bkL
  have hp:=bkL_pos bk l
  rcases List.mem_cons.1 h with rfl | h
  ·omega
  ·have:=ih h;omega
theorem VAa {T:Type} {bk:T→Nat} (hb:∀x,1≤bk x) (l:List T):l.length+1≤bkL bk l:=by
 induction l with
 | nil=> simp [bkL]
 | cons y l ih=> unfold bkL;have:=hb y;simp;omega
section
variable {α:Type}
end
theorem vqb {V:Type} (m:List (Str × V)) (k:Str) (v:V) (x:Str):mget (mput m k v) x=if k==x then some v else mget m x:=by
 induction m with
 | nil=> rfl
 | cons p m ih=>
  obtain ⟨k',v'⟩:=p
  unfold mput
  by_cases h:k' =k
  ·subst h
   simp only [beq_self_eq_true,if_true,mget]
   cases k' ==x <;> simp
  ·have h1:(k' ==k)=false:=by simpa using h
   rw [h1]
   simp only [Bool.false_eq_true,if_false,mget]
   rw [ih]
   by_cases h2:k' =x
   ·subst h2
    have:(k==k')=false:=by simpa using fun h' => h h'.symm
    simp [this]
   ·have:(k' ==x)=false:=by simpa using h2
    rw [this];simp
section
variable {α A S O:Type}
end
end Go.Proofs.YtjnmamghadpedaaGreatDoor
namespace Go.Proofs.YtjnmamghadpedaaGreatDoor
open Go.RowKit
set_option maxHeartbeats 1000000
theorem yza {u:Nat} (h:u < 10):Lib.decDigits u= [UInt8.ofNat (48+u)]:=by rw [Lib.decDigits,dif_pos h]
theorem qDb {u:Nat} (h:¬u < 10):Lib.decDigits u=Lib.decDigits (u / 10)++Lib.decDigits (u % 10):=by
 rw [Lib.decDigits,dif_neg h,yza (show u % 10 < 10 by omega)]
theorem KEa:∀(k u:Nat),u < 10 ^ (k+1)→(Lib.decDigits u).length≤k+1
 | 0,u,h=> by rw [yza (by simpa using h)];simp
 | k+1,u,h=> by
  by_cases h10:u < 10
  ·rw [yza h10];simp
  ·have:=KEa k (u / 10) (by rw [Nat.pow_succ] at h;omega)
   rw [qDb h10,yza (show u % 10 < 10 by omega)]
   simp;omega
theorem iQuo10 {u:Nat} (h:u≤9223372036854775807):iQuo (u:Int) 10=((u / 10:Nat):Int):=by
 unfold iQuo
 rw [Int.tdiv_eq_ediv_of_nonneg (by omega),z0a (by omega) (by omega)]
 omega
theorem iRem10 (u:Nat):iRem (u:Int) 10=((u % 10:Nat):Int):=by
 unfold iRem
 rw [Int.tmod_eq_emod_of_nonneg (by omega)]
 omega
theorem wJb:∀u:Fin 10,cut ([48,49,50,51,52,53,54,55,56,57]:Str) (u.val:Int) (w64 ((u.val:Int)+1))=some [UInt8.ofNat (48+u.val)]:=by decide
theorem kVa {f g:Int→Option Str} (hf:∀n:Int,f n=bif decide (n < 10) then (cut ([48,49,50,51,52,53,54,55,56,57]:Str) n (w64 (n+1))).bind fun v2=> some v2 else (g (iQuo n 10)).bind fun v4=> (g (iRem n 10)).bind fun v6=> (cat v4 v6).bind fun v8=> some v8)
  (k:Nat) (hk:k≤17) (hg:∀u:Nat,u < 10 ^ k→1≤k→g (u:Int)=some (Lib.decDigits u)) (u:Nat) (hu:u < 10 ^ (k+1)):f (u:Int)=some (Lib.decDigits u):=by
 have hp:10 ^ (k+1)≤10 ^ 18:=Nat.pow_le_pow_right (by omega) (by omega)
 rw [hf]
 by_cases h10:u < 10
 ·rw [decide_eq_true (by omega:(u:Int) < 10),cond_true,wJb ⟨u,h10⟩,yza h10]
  rfl
 ·have hk1:1≤k:=by
   rcases Nat.eq_zero_or_pos k with rfl | h
   ·simp at hu;omega
   ·exact h
  have h9:10 ^ 1≤10 ^ k:=Nat.pow_le_pow_right (by omega) hk1
  rw [decide_eq_false (by omega:¬(u:Int) < 10),cond_false,iQuo10 (by omega),iRem10,hg _ (by rw [Nat.pow_succ] at hu;omega) hk1,hg _ (by omega) hk1,qDb h10]
  have h1:=KEa 17 (u / 10) (by omega)
  have h2:=KEa 17 (u % 10) (by omega)
  simp only [Option.bind_some]
  rw [kZa (by omega)]
  rfl
theorem k0b (u:Nat) (h:u < 10 ^ 12):Zka (u:Int)=some (Lib.decDigits u):=by
 have h1:=kVa (f:=yRa) (g:=yQa) (fun _=> rfl) 0 (by omega) (fun _ _ h=> by omega)
 have h2:=kVa (f:=ySa) (fun _=> rfl) 1 (by omega) (fun u hu _=> h1 u hu)
 have h3:=kVa (f:=yTa) (fun _=> rfl) 2 (by omega) (fun u hu _=> h2 u hu)
 have h4:=kVa (f:=yUa) (fun _=> rfl) 3 (by omega) (fun u hu _=> h3 u hu)
 have h5:=kVa (f:=yVa) (fun _=> rfl) 4 (by omega) (fun u hu _=> h4 u hu)
 have h6:=kVa (f:=yWa) (fun _=> rfl) 5 (by omega) (fun u hu _=> h5 u hu)
 have h7:=kVa (f:=yXa) (fun _=> rfl) 6 (by omega) (fun u hu _=> h6 u hu)
 have h8:=kVa (f:=yYa) (fun _=> rfl) 7 (by omega) (fun u hu _=> h7 u hu)
 have h9:=kVa (f:=yZa) (fun _=> rfl) 8 (by omega) (fun u hu _=> h8 u hu)
 have h10:=kVa (f:=w4a) (fun _=> rfl) 9 (by omega) (fun u hu _=> h9 u hu)
 have h11:=kVa (f:=w5a) (fun _=> rfl) 10 (by omega) (fun u hu _=> h10 u hu)
 exact kVa (f:=Zka) (fun _=> rfl) 11 (by omega) (fun u hu _=> h11 u hu) u h
theorem WYa (u:Nat) (h:u≤9223372036854775807):k5a (u:Int)=some (Lib.decDigits u):=by
 unfold k5a
 rw [if_pos (by omega),Lib.itoa_nonneg]
end Go.Proofs.YtjnmamghadpedaaGreatDoor
namespace Go.Proofs.YtjnmamghadpedaaGreatDoor
open Go.RowKit
set_option maxHeartbeats 1000000
def WZa (c:UInt8):Bool:=(decide (97≤c) && decide (c≤122)) || (decide (65≤c) && decide (c≤90)) || (decide (48≤c) && decide (c≤57))
def yla (c:UInt8):Bool:=(decide (97≤c) && decide (c≤122)) || (decide (48≤c) && decide (c≤57)) || c==45 || c==46
def Wea (c:UInt8):Bool:=WZa c || c==45 || c==95 || c==46 || c==43 || c==61
def Zwa:Bool→Str→Bool
 | p, []=> !p
 | p,c::r=> if c=46 then !p && Zwa true r else Zwa false r
def domP (s:Str):Bool:=decide (s.length≤60) && s.all yla && Zwa true s
def atP (s:Str):Nat:=s.findIdx (· ==64)
def wDa (s:Str):Bool:=decide (atP s < s.length) && decide (1≤atP s) && decide (atP s≤60) && (s.take (atP s)).all Wea && domP (s.drop (atP s+1))
theorem jua (k:Nat) (c:UInt8) (hk:OfNat.ofNat k < 256):decide ((no_index (OfNat.ofNat k:Int))≤(c.toNat:Int))=decide ((OfNat.ofNat k:UInt8)≤c):=by
 have e:(OfNat.ofNat k:Int)=((OfNat.ofNat k:Nat):Int):=rfl
 have h2:(OfNat.ofNat k:UInt8).toNat=(OfNat.ofNat k:Nat):=by
  show (UInt8.ofNat k).toNat=k
  rw [UInt8.toNat_ofNat'];exact Nat.mod_eq_of_lt hk
 rw [Bool.eq_iff_iff,decide_eq_true_eq,decide_eq_true_eq,UInt8.le_iff_toNat_le,h2,e];omega
theorem jva (k:Nat) (c:UInt8) (hk:OfNat.ofNat k < 256):decide ((c.toNat:Int)≤(no_index (OfNat.ofNat k:Int)))=decide (c≤(OfNat.ofNat k:UInt8)):=by
 have e:(OfNat.ofNat k:Int)=((OfNat.ofNat k:Nat):Int):=rfl
 have h2:(OfNat.ofNat k:UInt8).toNat=(OfNat.ofNat k:Nat):=by
  show (UInt8.ofNat k).toNat=k
  rw [UInt8.toNat_ofNat'];exact Nat.mod_eq_of_lt hk
 rw [Bool.eq_iff_iff,decide_eq_true_eq,decide_eq_true_eq,UInt8.le_iff_toNat_le,h2,e];omega
theorem v8a (a b c:Int):R_In a b c=some (decide (b≤a) && decide (a≤c)):=by
 unfold R_In;cases decide (b≤a) <;> rfl
theorem jwa (c:UInt8):qza c=some (WZa c):=by
 unfold qza WZa
 simp only [v8a,Option.bind_some,jua 97 c (by decide),jva 122 c (by decide),jua 65 c (by decide),jva 90 c (by decide),jua 48 c (by decide),jva 57 c (by decide)]
 generalize (decide ((97:UInt8)≤c) && decide (c≤122))=x
 generalize (decide ((65:UInt8)≤c) && decide (c≤90))=y
 cases x <;> cases y <;> simp
theorem Z5a (c:UInt8):wda c=some (WZa c):=by
 unfold wda WZa
 simp only [jua 97 c (by decide),jva 122 c (by decide),jua 65 c (by decide),jva 90 c (by decide),jua 48 c (by decide),jva 57 c (by decide)]
 cases decide ((97:UInt8)≤c) <;> cases decide (c≤122) <;> cases decide ((65:UInt8)≤c) <;> cases decide (c≤90) <;> cases decide ((48:UInt8)≤c) <;> cases decide (c≤57) <;> rfl
def yha (s:Str) (i:Nat):Bool:=if i=0 then true else s[i - 1]? ==some 46
def wQa:Bool→Str→Bool
 | _, []=> true
 | p,c::r=> if c=46 then !p && !r.isEmpty && wQa true r else yla c && wQa false r
theorem zQb (p:Bool) (c:UInt8) (r:Str):wQa p (c::r)=if c=46 then !p && !r.isEmpty && wQa true r else yla c && wQa false r:=rfl
theorem vrb (s:Str) (p:Bool) (h:s≠ []∨p=false):wQa p s=(s.all yla && Zwa p s):=by
 induction s generalizing p with
 | nil=> simp [wQa,Zwa];rcases h with h | h <;> simp_all
 | cons c r ih=>
  unfold wQa Zwa
  by_cases hc:c=46
  ·subst hc
   simp only [if_true,List.all_cons,show yla 46=true by decide,Bool.true_and]
   cases r with
   | nil=> simp [Zwa]
   | cons d r=>
    rw [ih true (.inl (by simp))]
    cases p <;> simp
  ·rw [if_neg hc,if_neg hc]
   rw [ih false (.inr rfl),List.all_cons,Bool.and_assoc]
theorem W0a (s:Str) (hs:s.length≤9223372036854775806):iter (qLa s) 0=some (if wQa true s then .inl () else .inr false):=by
 have:=wHb (body:=qLa s) s (fun i (_:Unit)=> (i:Int)) (fun i r _=> if wQa (yha s i) r then .inl () else .inr false) (fun _=> by
   unfold qLa
   rw [z1a];simp [wQa]) (fun p c r _ h=> ?_) (s0:=0) () rfl
 ·simpa [yha] using this
 ·have hc:s[p.length]? =some c:=by simp [h]
  have hidx:=zYa hc
  have hlen:s.length=p.length+r.length+1:=by rw [h];simp;omega
  have e1:w64 ((s.length:Int) - 1)=((s.length - 1:Nat):Int):=by rw [z0a (by omega) (by omega)];omega
  have e2:w64 ((p.length:Int)+1)=((p.length+1:Nat):Int):=by rw [show ((p.length:Int)+1)=((p.length+1:Nat):Int) by omega,zNb _ (by omega)]
  have hbody:qLa s (p.length:Int)=some (if c=46 then (if yha s p.length || r.isEmpty then .out (.inr false) else .cont ((p.length+1:Nat):Int)) else if yla c then .cont ((p.length+1:Nat):Int) else .out (.inr false)):=by
   unfold qLa
   rw [kAa hc,hidx]
   simp only [cond_true,Option.bind_some,v8a,v6a c 46 (by decide),Qma c 45 (by decide),Qma c 46 (by decide),jua 97 c (by decide),jva 122 c (by decide),jua 48 c (by decide),jva 57 c (by decide),e1,e2]
   by_cases h46:c=46
   ·subst h46
    have hsm:(!(decide ((97:UInt8)≤46) && decide ((46:UInt8)≤122)))=true:=by decide
    have hsm2:(!(decide ((48:UInt8)≤46) && decide ((46:UInt8)≤57)))=true:=by decide
    simp only [beq_self_eq_true,cond_true,hsm,hsm2,if_true,bne_self_eq_false]
    by_cases h0:p.length=0
    ·simp [h0,yha]
    ·have h0' :((p.length:Int)==0)=false:=by rw [beq_eq_false_iff_ne];omega
     by_cases hl:r= []
     ·subst hl
      have:((p.length:Int)==((s.length - 1:Nat):Int))=true:=by rw [hlen];simp
      simp [h0',this]
     ·have hr:r.isEmpty=false:=by simpa using hl
      have hrl:0 < r.length:=List.length_pos_iff.2 hl
      have:((p.length:Int)==((s.length - 1:Nat):Int))=false:=by rw [hlen];simp;omega
      have e3:w64 ((p.length:Int) - 1)=((p.length - 1:Nat):Int):=by rw [z0a (by omega) (by omega)];omega
      have hlt:p.length - 1 < s.length:=by omega
      simp only [h0',this,cond_false,e3,QVa hlt,Option.bind_some,hr,Bool.or_false,yha,if_neg h0,List.getElem?_eq_getElem hlt]
      rw [v6a _ 46 (by decide)]
      by_cases hd:s[p.length - 1]=46
      ·simp [hd]
      ·have:(s[p.length - 1]==46)=false:=by simpa using hd
       simp [this,hd]
   ·have h1:(c==46)=false:=by simpa using h46
    have h2:(c !=46)=true:=by simpa using h46
    simp only [h1,cond_false,if_neg h46,Option.bind_some,yla,h2]
    by_cases ha:(decide ((97:UInt8)≤c) && decide (c≤122))=true
    ·simp [ha]
    ·have ha:(decide ((97:UInt8)≤c) && decide (c≤122))=false:=by simpa using ha
     by_cases hb:(decide ((48:UInt8)≤c) && decide (c≤57))=true
     ·simp [ha,hb]
     ·have hb:(decide ((48:UInt8)≤c) && decide (c≤57))=false:=by simpa using hb
      by_cases h45:c=45
      ·subst h45;simp [ha,hb]
      ·have:(c==45)=false:=by simpa using h45
       simp [ha,hb,this,bne]
  have hp1:yha s (p.length+1)=decide (c=46):=by
   unfold yha
   simp only [Nat.add_sub_cancel,Nat.add_one_ne_zero,if_false,hc]
   rw [Bool.eq_iff_iff];simp
  rw [hbody]
  rw [zQb]
  by_cases h46:c=46
  ·subst h46
   simp only [if_true]
   cases hq:(yha s p.length || r.isEmpty) with
   | true=>
    left
    simp only [if_true]
    have:(!yha s p.length && !r.isEmpty && wQa true r)=false:=by
     cases hp:yha s p.length <;> simp_all
    rw [this];rfl
   | false=>
    right
    refine ⟨(),rfl, ?_⟩
    have h3:yha s p.length=false:=by cases hp:yha s p.length <;> simp_all
    have h4:r.isEmpty=false:=by cases hp:r.isEmpty <;> simp_all
    rw [h3,h4,hp1];simp
  ·simp only [if_neg h46]
   cases hq:yla c with
   | true=> right;exact ⟨(),rfl,by rw [hp1];simp [h46]⟩
   | false=> left;simp
theorem JYa (s:Str) (hs:s.length≤9223372036854775806):jPa s=some (domP s):=by
 unfold jPa
 rw [W0a s hs]
 by_cases hn:s= []
 ·subst hn;simp [wQa,v8a,domP,Zwa]
 ·rw [vrb s true (.inl hn)]
  have hpos:0 < s.length:=List.length_pos_iff.2 hn
  unfold domP
  cases h:(s.all yla && Zwa true s) with
  | false=>
   rw [Bool.and_assoc,h];simp
  | true=>
   rw [Bool.and_assoc,h]
   simp only [if_true,Option.bind_some,v8a,Bool.and_true,Sum.elim_inl,Option.some.injEq]
   rw [Bool.eq_iff_iff];simp;omega
theorem wKb (s:Str) (hs:s.length≤9223372036854775806):zLb s=some ((atP s:Nat):Int):=by
 unfold zLb
 rw [zQa s (fun i c=> if c==64 then some (i:Int) else none) (.inl ()) .inr]
 ·simp only [Option.bind_some]
  have key:∀(r:Str) (n:Nat),(zUa (fun i (c:UInt8)=> if c==64 then some (i:Int) else none) n r).getD ((n+r.length:Nat):Int)=((n+r.findIdx (· ==64):Nat):Int):=by
   intro r
   induction r with
   | nil=> intro n;simp [zUa]
   | cons c r ih=>
    intro n
    unfold zUa
    rw [List.findIdx_cons]
    cases hc:(c==64) with
    | true=> simp
    | false=>
     simp only [Bool.false_eq_true,if_false,cond_false]
     have:=ih (n+1)
     rw [show n+(c::r).length=n+1+r.length by simp;omega,show n+(r.findIdx (· ==64)+1)=n+1+r.findIdx (· ==64) by omega]
     exact this
  have:=key s 0
  rw [Nat.zero_add,Nat.zero_add] at this
  unfold atP
  rw [←this]
  cases zUa (fun i (c:UInt8)=> if c==64 then some (i:Int) else none) 0 s <;> rfl
 ·unfold QOa;rw [z1a];rfl
 ·intro i c hc
  unfold QOa
  have hi:=kca hc
  rw [kAa hc,zYa hc]
  simp only [cond_true,Option.bind_some,v6a c 64 (by decide)]
  cases c==64 with
  | true=> rfl
  | false=>
   simp only [cond_false,Bool.false_eq_true,if_false]
   rw [show ((i:Int)+1)=((i+1:Nat):Int) by omega,zNb _ (by omega)];rfl
theorem K4a (s:Str) (hs:s.length≤9223372036854775806):wMa s=some (wDa s):=by
 have hat:atP s≤s.length:=List.findIdx_le_length
 unfold wMa
 rw [wKb s hs]
 simp only [Option.bind_some]
 have hloop:iter (vJa s (atP s:Int)) 0=some ((zUa (fun _ c=> if !Wea c then some false else none) 0 (s.take (atP s))).elim (.inl ()) .inr):=by
  refine zQa (s.take (atP s)) _ (Sum.inl ()) Sum.inr ?_ ?_
  ·have:((s.take (atP s)).length:Int)=(atP s:Int):=by simp;omega
   unfold vJa;rw [this];simp
  ·intro i c hc
   have hi:=kca hc
   simp at hi
   have hc2:s[i]? =some c:=by rw [List.getElem?_take_of_lt (by omega)] at hc;exact hc
   unfold vJa
   have:decide ((i:Int) < (atP s:Int))=true:=by simp;omega
   rw [this,zYa hc2]
   simp only [cond_true,Option.bind_some,jwa,Qma c 45 (by decide),Qma c 95 (by decide),Qma c 46 (by decide),Qma c 43 (by decide),Qma c 61 (by decide)]
   rw [show ((i:Int)+1)=((i+1:Nat):Int) by omega,zNb _ (by omega)]
   unfold Wea
   cases WZa c <;> cases h1:(c==45) <;> cases h2:(c==95) <;> cases h3:(c==46) <;> cases h4:(c==43) <;> cases h5:(c==61) <;> simp [bne,h1,h2,h3,h4,h5]
 rw [hloop,wia]
 unfold wDa
 have hall:(s.take (atP s)).any (fun c=> !Wea c)= !((s.take (atP s)).all Wea):=by simp [List.not_all_eq_any_not]
 rw [hall]
 cases hg:(s.take (atP s)).all Wea with
 | false=> simp
 | true=>
  simp only [Bool.not_true,Bool.false_eq_true,if_false,Option.bind_some,v8a,Bool.and_true]
  by_cases h1:1≤atP s∧atP s≤60
  ·have e1:(decide ((1:Int)≤(atP s:Int)) && decide ((atP s:Int)≤60))=true:=by simp;omega
   rw [e1]
   by_cases h2:atP s < s.length
   ·have e2:decide ((atP s:Int) < (s.length:Int))=true:=by simp;omega
    rw [e2]
    simp only [cond_true]
    rw [show ((atP s:Int)+1)=((atP s+1:Nat):Int) by omega,zNb _ (by omega),y3a (by omega)]
    simp only [Option.bind_some]
    rw [JYa _ (by simp;omega)]
    simp [h1,h2]
   ·have e2:decide ((atP s:Int) < (s.length:Int))=false:=by simp;omega
    rw [e2];simp [h2]
  ·have e1:(decide ((1:Int)≤(atP s:Int)) && decide ((atP s:Int)≤60))=false:=by
    rw [Bool.eq_false_iff];simp;omega
   rw [e1]
   simp only [cond_false,Option.bind_some]
   congr 1
   symm
   rcases Nat.lt_or_ge (atP s) 1 with h | h
   ·have:decide (1≤atP s)=false:=by simp;omega
    rw [this];simp
   ·have:decide (atP s≤60)=false:=by simp;omega
    rw [this];simp
theorem JZa (s:Str):∀p,Zwa p s=(!(p && (s.isEmpty || s.head? ==some 46)) && !(s.getLast? ==some 46) && !Lib.contains s [46,46]):=by
 induction s with
 | nil=> intro p;cases p <;> simp [Zwa,Lib.contains,Lib.index]
 | cons c r ih=>
  intro p
  have hcont:Lib.contains (c::r) [46,46]=((c==46 && r.head? ==some 46) || Lib.contains r [46,46]):=by
   unfold Lib.contains
   rw [Lib.index]
   have hpre:([46,46]:List UInt8).isPrefixOf (c::r)=(c==46 && r.head? ==some 46):=by
    cases r with
    | nil=> simp [List.isPrefixOf]
    | cons d r=> simp only [List.isPrefixOf,List.head?_cons,Bool.and_true];rw [Bool.eq_iff_iff];simp;constructor <;> rintro ⟨rfl,rfl⟩ <;> exact ⟨rfl,rfl⟩
   rw [hpre]
   have hg:=Lib.index_ge r [46,46]
   cases c==46 && r.head? ==some 46 with
   | true=> simp
   | false=>
    simp only [Bool.false_eq_true,if_false,Bool.false_or]
    by_cases h:Lib.index r [46,46]= -1
    ·simp [h]
    ·have:(Lib.index r [46,46]== -1)=false:=by simpa using h
     rw [this]
     simp only [Bool.false_eq_true,if_false]
     rw [Bool.eq_iff_iff];simp;omega
  rw [hcont,Zwa]
  have hlast:(c::r).getLast? =if r.isEmpty then some c else r.getLast? :=by cases r <;> simp
  rw [hlast]
  by_cases hc:c=46
  ·subst hc
   rw [if_pos rfl,ih true]
   cases r with
   | nil=> simp
   | cons d r=> cases p <;> cases hd:(d==46) <;> simp_all [Bool.and_comm,Bool.and_assoc,Bool.and_left_comm]
  ·have h1:(c==46)=false:=by simpa using hc
   have h2:(some c==some (46:UInt8))=false:=by simpa using hc
   rw [if_neg hc,ih false]
   cases r with
   | nil=> simp [h1,h2,Lib.contains,Lib.index,hc]
   | cons d r=> simp [h1,h2,hc]
theorem KNa (s t:Str):kJa s t=some (t.isPrefixOf s):=by
 unfold kJa kla
 by_cases h:t.length≤s.length
 ·have:decide ((t.length:Int)≤(s.length:Int))=true:=by simp;omega
  rw [this,QWa h]
  simp only [cond_true,Option.bind_some,Option.some.injEq]
  rw [Bool.eq_iff_iff,beq_iff_eq,List.isPrefixOf_iff_prefix,List.prefix_iff_eq_take]
  constructor <;> exact fun h=> h.symm
 ·have:decide ((t.length:Int)≤(s.length:Int))=false:=by simp;omega
  rw [this]
  simp only [cond_false,Option.bind_some,Option.some.injEq]
  symm
  rw [Bool.eq_false_iff]
  intro hp
  exact h (List.isPrefixOf_iff_prefix.1 hp).length_le
theorem KOa (s t:Str) (hs:s.length≤9223372036854775806):kKa s t=some (t.isSuffixOf s):=by
 unfold kKa kma
 by_cases h:t.length≤s.length
 ·have:decide ((t.length:Int)≤(s.length:Int))=true:=by simp;omega
  rw [this,wFb _ _ h (by omega),y3a (by omega)]
  simp only [cond_true,Option.bind_some,Option.some.injEq]
  rw [Bool.eq_iff_iff,beq_iff_eq,List.isSuffixOf_iff_suffix,List.suffix_iff_eq_drop]
  constructor <;> exact fun h=> h.symm
 ·have:decide ((t.length:Int)≤(s.length:Int))=false:=by simp;omega
  rw [this]
  simp only [cond_false,Option.bind_some,Option.some.injEq]
  symm
  rw [Bool.eq_false_iff]
  intro hp
  exact h (List.isSuffixOf_iff_suffix.1 hp).length_le
theorem dom_char (c:UInt8):((bif decide ((97:UInt8)≤c) then (bif decide (c≤122) then some true else (bif decide ((48:UInt8)≤c) then (bif decide (c≤57) then some true else (bif (c==45) then some true else some (c==46))) else (bif (c==45) then some true else some (c==46)))) else (bif decide ((48:UInt8)≤c) then (bif decide (c≤57) then some true else (bif (c==45) then some true else some (c==46))) else (bif (c==45) then some true else some (c==46)))):Option Bool)=some (yla c):=by
 unfold yla
 cases decide ((97:UInt8)≤c) <;> cases decide (c≤122) <;> cases decide ((48:UInt8)≤c) <;> cases decide (c≤57) <;> cases (c==45) <;> rfl
theorem QXa (s:Str) (hs:s.length < 4294967281):vga s=some (domP s):=by
 have hloop:iter (qja s) 0=some ((zUa (fun _ c=> if !yla c then some () else none) 0 s).elim (.inl ()) .inr):=by
  refine zQa s _ (Sum.inl ()) Sum.inr ?_ ?_
  ·unfold qja;rw [z1a];rfl
  ·intro i c hc
   have hi:=kca hc
   unfold qja
   rw [kAa hc,zYa hc]
   simp only [cond_true,Option.bind_some,v6a c 45 (by decide),v6a c 46 (by decide),jua 97 c (by decide),jva 122 c (by decide),jua 48 c (by decide),jva 57 c (by decide),dom_char]
   rw [show ((i:Int)+1)=((i+1:Nat):Int) by omega,zNb _ (by omega)]
   cases yla c <;> rfl
 unfold vga domP
 rw [hloop,wia,JZa]
 by_cases hn:s= []
 ·subst hn;simp
 ·have h1:(s !=([]:Str))=true:=by simpa using hn
  rw [h1]
  simp only [cond_true]
  by_cases hl:s.length≤60
  ·have h2:decide ((s.length:Int)≤60)=true:=by simp;omega
   rw [h2]
   have hall:s.any (fun c=> !yla c)= !(s.all yla):=by simp [List.not_all_eq_any_not]
   rw [hall]
   cases hg:s.all yla with
   | false=> simp [hl]
   | true=>
    simp only [Bool.not_true,Bool.false_eq_true,if_false,Option.elim,Option.bind_some,cond_true,KNa,KOa s [46] (by omega),kTa,if_pos hs]
    have hp:([46]:Str).isPrefixOf s=(s.head? ==some 46):=by
     cases s with
     | nil=> rfl
     | cons d r=> simp only [List.isPrefixOf,List.head?_cons,Bool.and_true];rw [Bool.eq_iff_iff];simp;exact ⟨fun h=> h.symm,fun h=> h.symm⟩
    have hsf:([46]:Str).isSuffixOf s=(s.getLast? ==some 46):=by
     rw [Bool.eq_iff_iff,List.isSuffixOf_iff_suffix,beq_iff_eq]
     constructor
     ·rintro ⟨t,rfl⟩;simp
     ·intro h
      obtain ⟨ys,rfl⟩:=List.getLast?_eq_some_iff.1 h
      exact ⟨ys,rfl⟩
    have he:s.isEmpty=false:=by simpa using hn
    rw [hp,hsf,he]
    cases s.head? ==some 46 <;> cases s.getLast? ==some 46 <;> cases Lib.contains s [46,46] <;> simp [hl]
  ·have h2:decide ((s.length:Int)≤60)=false:=by simp;omega
   rw [h2];simp [hl]
theorem J0a (s:Str):Lib.index s [64]=if atP s < s.length then (atP s:Int) else -1:=by
 rw [Lib.index_one]
 unfold atP
 induction s with
 | nil=> rfl
 | cons c r ih=>
  rw [Lib.indexByte,List.findIdx_cons]
  cases hc:(c==64) with
  | true=> simp
  | false=>
   simp only [Bool.false_eq_true,if_false,cond_false,List.length_cons]
   rw [ih]
   by_cases h:r.findIdx (· ==64) < r.length
   ·simp only [if_pos h,if_pos (show r.findIdx (· ==64)+1 < r.length+1 by omega)]
    have:(((r.findIdx (· ==64):Nat):Int)== -1)=false:=by rw [beq_eq_false_iff_ne];omega
    rw [this];simp
   ·simp only [if_neg h,if_neg (show ¬(r.findIdx (· ==64)+1 < r.length+1) by omega)];simp
theorem cut_at (s:Str):Lib.cut s [64]=if atP s < s.length then (s.take (atP s),s.drop (atP s+1),true) else (s, [],false):=by
 unfold Lib.cut
 rw [J0a]
 by_cases h:atP s < s.length
 ·rw [if_pos h,if_pos h,if_pos (by omega)];simp
 ·rw [if_neg h,if_neg h,if_neg (by omega)]
def qEb (s:Str):Str × Str × Bool:=if atP s < s.length then (s.take (atP s),s.drop (atP s+1),wDa s) else (s, [],false)
theorem wLb (c:UInt8):(WZa c || decide (0≤Lib.indexByte [45,95,46,43,61] c))=Wea c:=by
 unfold Wea
 by_cases h1:c=45
 ·subst h1;decide
 by_cases h2:c=95
 ·subst h2;decide
 by_cases h3:c=46
 ·subst h3;decide
 by_cases h4:c=43
 ·subst h4;decide
 by_cases h5:c=61
 ·subst h5;decide
 rw [beq_eq_false_iff_ne.2 h1,beq_eq_false_iff_ne.2 h2,beq_eq_false_iff_ne.2 h3,beq_eq_false_iff_ne.2 h4,beq_eq_false_iff_ne.2 h5]
 simp [Lib.indexByte,Ne.symm h1,Ne.symm h2,Ne.symm h3,Ne.symm h4,Ne.symm h5]
theorem VBa (s:Str) (hs:s.length < 4294967281):vKa s=some (qEb s):=by
 have hloop:∀v:Str × Str × Bool,v.1.length < 4294967281→iter (qAa v) 0=some ((zUa (fun _ c=> if !Wea c then some () else none) 0 v.1).elim (.inl ()) .inr):=by
  intro v hv
  refine zQa v.1 _ (Sum.inl ()) Sum.inr ?_ ?_
  ·unfold qAa;rw [z1a];rfl
  ·intro i c hc
   have hi:=kca hc
   unfold qAa
   rw [kAa hc,zYa hc]
   simp only [cond_true,Option.bind_some,Z5a,z3a]
   rw [show ((i:Int)+1)=((i+1:Nat):Int) by omega,zNb _ (by omega)]
   have hg:=wLb c
   cases hl:WZa c with
   | true=> rw [hl] at hg;simp only [Bool.true_or] at hg;rw [←hg];rfl
   | false=> rw [hl] at hg;simp only [Bool.false_or] at hg;rw [←hg];cases decide (0≤Lib.indexByte [45,95,46,43,61] c) <;> rfl
 unfold vKa v3a
 rw [if_pos hs,cut_at]
 simp only [Option.bind_some]
 unfold qEb
 by_cases h:atP s < s.length
 ·simp only [if_pos h,cond_true]
  rw [hloop _ (by simp;omega),wia]
  have hall:(s.take (atP s)).any (fun c=> !Wea c)= !((s.take (atP s)).all Wea):=by simp [List.not_all_eq_any_not]
  simp only [hall]
  have hlen:(s.take (atP s)).length=atP s:=by simp;omega
  rw [hlen,QXa _ (by simp;omega)]
  unfold wDa
  by_cases h0:atP s=0
  ·simp [h0]
  ·have hne:(s.take (atP s) !=([]:Str))=true:=by
    simp only [bne_iff_ne,ne_eq]
    intro hx
    have:=congrArg List.length hx
    rw [hlen] at this;simp at this;omega
   rw [hne]
   by_cases h60:atP s≤60
   ·have e:decide ((atP s:Int)≤60)=true:=by simp;omega
    rw [e]
    cases (s.take (atP s)).all Wea <;> simp [h,h60] <;> omega
   ·have e:decide ((atP s:Int)≤60)=false:=by simp;omega
    rw [e];simp [h60]
 ·simp [if_neg h]
theorem k1b (s:Str):(qEb s).2.2=wDa s:=by
 unfold qEb
 by_cases h:atP s < s.length
 ·rw [if_pos h]
 ·rw [if_neg h];unfold wDa;simp [h]
theorem v9a (s:Str) (hs:s.length < 4294967281):kUa s=some (wDa s):=by
 unfold kUa;rw [VBa s hs];simp [k1b]
end Go.Proofs.YtjnmamghadpedaaGreatDoor
namespace Go.Proofs.YtjnmamghadpedaaGreatDoor
open Go.RowKit
theorem K5a (o:Option Unit) (a b:Bool):Sum.elim (fun _=> some a) (fun _=> some b) (o.elim (Sum.inl ()) Sum.inr:Unit ⊕ Unit)=some (bif o.isSome then b else a):=by cases o <;> rfl
theorem Zna {α R:Type} (c:α→Bool) (r:R) (l:List α) (n:Nat):(zUa (fun _ x=> if c x then some r else none) n l).isSome=l.any c:=by
 rw [wia];cases l.any c <;> rfl
theorem W1a {α:Type} (l:List α) (p:α→Bool):l.any (fun x=> !p x)= !l.all p:=by simp [List.not_all_eq_any_not]
theorem jCa (a b:Int):R_At a b=some ⟨a,b⟩:=rfl
theorem zPa (a b:Int):zAa a b=some ⟨a,b⟩:=rfl
theorem z6a:z7a=some ⟨0,0⟩:=rfl
theorem kpa (f:zza):kka f=some (f.Code !=0):=rfl
theorem KFa (o:Option zza) (f:zza):Sum.elim (fun _=> some f) (fun b=> some b) (o.elim (Sum.inl ()) Sum.inr:Unit ⊕ zza)=some (o.getD f):=by cases o <;> rfl
end Go.Proofs.YtjnmamghadpedaaGreatDoor
namespace Go.Proofs.YtjnmamghadpedaaGreatDoor
open Go.RowKit
set_option maxHeartbeats 1000000
def k2b (c:UInt8):Bool:=WZa c || c==45 || c==95 || c==46
def jDa (s:Str):Bool:=decide (1≤s.length) && decide (s.length≤60) && s.all k2b
theorem QYa {s:Str} (h:jDa s=true):1≤s.length∧s.length≤60:=by
 unfold jDa at h
 simp only [Bool.and_eq_true,decide_eq_true_eq] at h
 exact ⟨h.1.1,h.1.2⟩
theorem W2a (s:Str) (hs:s.length≤1048576):Kza s=some (jDa s):=by
 unfold Kza
 rw [zQa s (fun _ c=> if !k2b c then some false else none) (.inl ()) .inr,wia,W1a]
 ·simp only [Option.bind_some,v8a]
  unfold jDa
  have e1:decide ((1:Int)≤(s.length:Int))=decide (1≤s.length):=by rw [Bool.eq_iff_iff];simp;omega
  have e2:decide ((s.length:Int)≤60)=decide (s.length≤60):=by rw [Bool.eq_iff_iff];simp;omega
  rw [←e1,←e2]
  cases s.all k2b <;> simp
 ·unfold Zja;rw [z1a];rfl
 ·intro i c hc
  have hi:=kca hc
  unfold Zja
  rw [kAa hc,zYa hc]
  simp only [cond_true,Option.bind_some,jwa,Qma c 45 (by decide),Qma c 95 (by decide),Qma c 46 (by decide),sc i (by omega)]
  unfold k2b bne
  cases WZa c <;> cases (c==45) <;> cases (c==95) <;> cases (c==46) <;> rfl
theorem Zoa (s:Str) (hs:s.length≤1048576):wNa s=some (jDa s):=by
 have hloop:iter (wva s) 0=some ((zUa (fun _ c=> if !k2b c then some () else none) 0 s).elim (.inl ()) .inr):=by
  refine zQa s _ (Sum.inl ()) Sum.inr ?_ ?_
  ·unfold wva;rw [z1a];rfl
  ·intro i c hc
   have hi:=kca hc
   unfold wva
   rw [kAa hc,zYa hc]
   simp only [cond_true,Option.bind_some,Z5a,v6a c 45 (by decide),v6a c 95 (by decide),v6a c 46 (by decide),sc i (by omega)]
   unfold k2b
   cases WZa c <;> cases (c==45) <;> cases (c==95) <;> cases (c==46) <;> rfl
 unfold wNa jDa
 rw [hloop]
 simp only [Option.bind_some,K5a,Zna,W1a]
 by_cases hn:s= []
 ·subst hn;rfl
 ·have h1:(s !=([]:Str))=true:=by simpa using hn
  have h2:decide (1≤s.length)=true:=by have:=List.length_pos_iff.2 hn;simp;omega
  have e2:decide ((s.length:Int)≤60)=decide (s.length≤60):=by rw [Bool.eq_iff_iff];simp;omega
  rw [h1,h2,e2]
  cases decide (s.length≤60) <;> cases s.all k2b <;> rfl
def ZHa (n:Int):Bool:=decide (0≤n) && decide (n≤7)
def recQ (l:List zca) (i:Nat) (r:zca):Option zza:=
 if !wDa r.Address then some ⟨10,i⟩ else if !ZHa r.Notify then some ⟨3,i⟩ else if (l.take i).any (fun x=> x.Address==r.Address) then some ⟨7,i⟩ else none
def recF (l:List zca):zza:=(zUa (recQ l) 0 l).getD ⟨0,0⟩
def fromB (s:Str):Bool:=s !=([]:Str) && !wDa s
def envF (e:zKa):zza:=if fromB e.From then ⟨10, -10⟩ else if decide (e.To.length < 1) || decide (60 < e.To.length) then ⟨2, -11⟩ else if e.Id !=([]:Str) && !jDa e.Id then ⟨10, -12⟩ else recF e.To
def smallR (l:List zca):Prop:=l.length≤1048576∧∀a∈l,a.Address.length≤1048576
def Z6a (e:zKa):Prop:=e.From.length≤1048576∧e.Id.length≤1048576∧smallR e.To
theorem vsb (l:List zca) (s:Str) (hl:l.length≤1048576):WVa l s=some ((zUa (fun i x=> if x.Address==s then some ((i:Nat):Int) else none) 0 l).getD (-1)):=by
 unfold WVa
 rw [zQa l (fun i x=> if x.Address==s then some ((i:Nat):Int) else none) (.inl ()) .inr]
 ·simp only [Option.bind_some,Wva]
 ·unfold KAa;rw [z1a];rfl
 ·intro i x hx
  have hi:=kca hx
  unfold KAa
  rw [kAa hx,zYa hx]
  simp only [cond_true,Option.bind_some,sc i (by omega)]
  cases x.Address==s <;> rfl
theorem jxa (n:Int):qBa n=some (ZHa n):=by unfold qBa ZHa;cases decide (0≤n) <;> rfl
theorem qFb (l:List zca) (i:Nat) (s:Str) (hl:l.length≤1048576):decide ((0:Int)≤(zUa (fun i x=> if x.Address==s then some ((i:Nat):Int) else none) 0 (l.take i)).getD (-1))=(l.take i).any (fun x=> x.Address==s):=WXa (fun x=> x.Address==s) (l.take i) 0
theorem QZa (e:zKa) (h:Z6a e):vha e=some (envF e):=by
 obtain ⟨h1,h2,h3,h4⟩:=h
 unfold vha envF
 rw [K4a _ (by omega),W2a _ h2]
 have hloop:iter (qka e) 0=some ((zUa (recQ e.To) 0 e.To).elim (.inl ()) .inr):=by
  refine zQa e.To _ (Sum.inl ()) Sum.inr ?_ ?_
  ·unfold qka;rw [z1a];rfl
  ·intro i r hr
   have hi:=kca hr
   have ha:=h4 r (List.mem_of_getElem? hr)
   unfold qka recQ
   rw [kAa hr,zYa hr]
   simp only [cond_true,Option.bind_some,K4a _ (show r.Address.length≤9223372036854775806 by omega),jCa,v8a,QWa (Nat.le_of_lt hi),vsb _ _ (show (e.To.take i).length≤1048576 by simp;omega),qFb _ _ _ h3,sc i (by omega)]
   unfold ZHa
   cases wDa r.Address <;> cases (decide (0≤r.Notify) && decide (r.Notify≤7)) <;> cases (e.To.take i).any (fun x=> x.Address==r.Address) <;> rfl
 rw [hloop]
 simp only [Option.bind_some,KFa,v8a,jCa]
 have e1:(!(decide ((1:Int)≤(e.To.length:Int)) && decide ((e.To.length:Int)≤60)))=(decide (e.To.length < 1) || decide (60 < e.To.length)):=by generalize e.To.length=n;rw [Bool.eq_iff_iff];simp;omega
 rw [e1]
 unfold fromB recF
 cases e.From !=([]:Str) <;> cases wDa e.From <;> cases (decide (e.To.length < 1) || decide (60 < e.To.length)) <;> cases e.Id !=([]:Str) <;> cases jDa e.Id <;> rfl
theorem ZIa (l:List zca) (h:smallR l):qaa l=some (recF l):=by
 obtain ⟨h3,h4⟩:=h
 unfold qaa recF
 rw [zQa l (recQ l) (.inl ()) .inr]
 ·simp only [Option.bind_some,z6a,KFa]
 ·unfold qba;rw [z1a];rfl
 ·intro i r hr
  have hi:=kca hr
  have ha:=h4 r (List.mem_of_getElem? hr)
  have hl2:iter (kEa r (l.take i)) 0=some ((zUa (fun i x=> if x.Address==r.Address then some ((i:Nat):Int) else none) 0 (l.take i)).elim (.inl ()) .inr):=by
   refine zQa (l.take i) _ (Sum.inl ()) Sum.inr ?_ ?_
   ·unfold kEa;rw [z1a];rfl
   ·intro k x hx
    have hk:=kca hx
    simp at hk
    unfold kEa
    rw [kAa hx,zYa hx]
    simp only [cond_true,Option.bind_some,sc k (by omega)]
    cases x.Address==r.Address <;> rfl
  unfold qba recQ
  rw [kAa hr,zYa hr]
  simp only [cond_true,Option.bind_some,v9a _ (show r.Address.length < 4294967281 by omega),zPa,jxa,QWa (Nat.le_of_lt hi),hl2,Wva,qFb _ _ _ h3,sc i (by omega)]
  cases wDa r.Address <;> cases ZHa r.Notify <;> cases (l.take i).any (fun x=> x.Address==r.Address) <;> rfl
theorem KPa (e:zKa) (h:Z6a e):qCa e=some (envF e):=by
 obtain ⟨h1,h2,h3⟩:=h
 unfold qCa envF
 rw [v9a _ (by omega),Zoa _ h2,ZIa _ h3]
 have e1:decide ((e.To.length:Int) < 1)=decide (e.To.length < 1):=by generalize e.To.length=n;rw [Bool.eq_iff_iff];simp;omega
 have e2:decide ((60:Int) < (e.To.length:Int))=decide (60 < e.To.length):=by rw [Bool.eq_iff_iff];simp;omega
 simp only [Option.bind_some,zPa,e1,e2]
 unfold fromB
 cases e.From !=([]:Str) <;> cases wDa e.From <;> cases decide (e.To.length < 1) <;> cases decide (60 < e.To.length) <;> cases e.Id !=([]:Str) <;> cases jDa e.Id <;> rfl
theorem wMb {e:zKa} (h:zKa.bk e≤1048576):Z6a e:=by
 unfold zKa.bk at h
 dsimp only at h
 refine ⟨by omega,by omega, ?_,fun a ha=> ?_⟩
 ·have:=VAa (bk:=zca.bk) (fun x=> by unfold zca.bk;omega) e.To;omega
 ·have h5:=wIb (bk:=zca.bk) ha;have h6:zca.bk a=a.Address.length+1+1+1:=rfl;omega
end Go.Proofs.YtjnmamghadpedaaGreatDoor
namespace Go.Proofs.YtjnmamghadpedaaGreatDoor
open Go.RowKit
set_option maxHeartbeats 1000000
end Go.Proofs.YtjnmamghadpedaaGreatDoor
namespace Go.Proofs.YtjnmamghadpedaaGreatDoor
open Go.RowKit
set_option maxHeartbeats 1000000
end Go.Proofs.YtjnmamghadpedaaGreatDoor
namespace Go.Proofs.YtjnmamghadpedaaGreatDoor
open Go.RowKit
set_option maxHeartbeats 1000000
def add1 (o:List Str) (x:Str):List Str:=if o.contains x then o else o++ [x]
def Jga (o xs:List Str):List Str:=xs.foldl add1 o
theorem add1_mem (o:List Str) (x y:Str):y∈add1 o x↔y∈o∨y=x:=by
 unfold add1
 split
 ·rename_i h
  simp at h
  constructor
  ·exact .inl
  ·rintro (h1 | rfl)
   ·exact h1
   ·exact h
 ·simp
theorem k3b (o:List Str) (x:Str):o <+:add1 o x:=by
 unfold add1;split
 ·exact List.prefix_refl _
 ·exact List.prefix_append _ _
theorem vtb {o:List Str} (h:o.Nodup) (x:Str):(add1 o x).Nodup:=by
 unfold add1;split
 ·exact h
 ·rename_i hx
  simp at hx
  rw [List.nodup_append]
  exact ⟨h,by simp,fun a ha b hb hab=> by simp at hb;subst hb;subst hab;exact hx ha⟩
theorem vub (xs:List Str):∀(o:List Str) (y:Str),y∈Jga o xs↔y∈o∨y∈xs:=by
 induction xs with
 | nil=> intro o y;simp [Jga]
 | cons x xs ih=> intro o y;show y∈Jga (add1 o x) xs↔_;rw [ih,add1_mem];simp [or_assoc]
theorem J1a (xs:List Str):∀o:List Str,o <+:Jga o xs:=by
 induction xs with
 | nil=> intro o;exact List.prefix_refl _
 | cons x xs ih=> intro o;exact (k3b o x).trans (ih _)
theorem zRb (xs:List Str):∀{o:List Str},o.Nodup→(Jga o xs).Nodup:=by
 induction xs with
 | nil=> intro o h;exact h
 | cons x xs ih=> intro o h;exact ih (vtb h x)
theorem nodup_le {l m:List Str} (hl:l.Nodup) (h:∀x∈l,x∈m):l.length≤m.length:=by
 induction l generalizing m with
 | nil=> simp
 | cons x l ih=>
  have hx:x∈m:=h x (by simp)
  obtain ⟨hxl,hl'⟩:=List.nodup_cons.1 hl
  have:=ih (m:=m.erase x) hl' (fun y hy=> by
   have hne:y≠x:=by rintro rfl;exact hxl hy
   exact (List.mem_erase_of_ne hne).2 (h y (by simp [hy])))
  rw [List.length_erase_of_mem hx] at this
  have:0 < m.length:=List.length_pos_of_mem hx
  simp;omega
def tgtO (l:List joa) (s:Str):Option (List Str):=(l.find? (fun a=> a.Address==s)).map (·.To)
def tgt (l:List joa) (s:Str):List Str:=(tgtO l s).getD []
def univ (l:List joa) (from_:List Str):List Str:=from_++l.flatMap (·.To)
theorem tgt_sub (l:List joa) (s x:Str) (h:x∈tgt l s):∃a∈l,a.Address=s∧x∈a.To:=by
 unfold tgt tgtO at h
 cases hf:l.find? (fun a=> a.Address==s) with
 | none=> rw [hf] at h;simp at h
 | some a=>
  rw [hf] at h
  have:=List.find?_some hf
  exact ⟨a,List.mem_of_find?_eq_some hf,by simpa using this,by simpa using h⟩
structure Inv (l:List joa) (U:List Str) (k:Nat) (out:List Str):Prop where
 nd:out.Nodup
 sub:∀x∈out,x∈U
 le:k≤out.length
theorem Inv.len {l:List joa} {U:List Str} {k:Nat} {out:List Str} (h:Inv l U k out):out.length≤U.length:=nodup_le h.nd h.sub
theorem Inv.step {l:List joa} {from_:List Str} {k:Nat} {out:List Str} (h:Inv l (univ l from_) k out) {s:Str} (hs:out[k]? =some s):Inv l (univ l from_) (k+1) (Jga out (tgt l s)):=by
 refine ⟨zRb _ h.nd,fun x hx=> ?_, ?_⟩
 ·rcases (vub _ _ _).1 hx with h1 | h1
  ·exact h.sub x h1
  ·obtain ⟨a,ha,_,hxa⟩:=tgt_sub l s x h1
   exact List.mem_append.2 (.inr (List.mem_flatMap.2 ⟨a,ha,hxa⟩))
 ·have:=(J1a (tgt l s) out).length_le
  have:=kca hs
  omega
end Go.Proofs.YtjnmamghadpedaaGreatDoor
namespace Go.Proofs.YtjnmamghadpedaaGreatDoor
open Go.RowKit
set_option maxHeartbeats 1000000
end Go.Proofs.YtjnmamghadpedaaGreatDoor
namespace Go.Proofs.YtjnmamghadpedaaGreatDoor
open Go.RowKit
set_option maxHeartbeats 1000000
end Go.Proofs.YtjnmamghadpedaaGreatDoor
namespace Go.Proofs.YtjnmamghadpedaaGreatDoor
open Go.RowKit
theorem J2a (s:Str) (i:Nat) (h:i < s.length):(strB s)[i]'(by rw [kga];exact h)=s[i]:=rfl
theorem wNb (s:Str) (i:Nat) (h:i < s.length):(strB s).get! i=s[i]:=by
 have:=get_at (strB s) i (by rw [kga];exact h)
 rw [Nat.add_zero] at this
 rw [this];rfl
theorem Jha {s:Str} {i:Nat} {c:UInt8} (h:s[i]? =some c) (hc:c.toNat < 128):K0a s i=(c.toNat:Int)∧jNa s i=1:=by
 have hi:=kca h
 have e:s[i]=c:=by rw [List.getElem?_eq_getElem hi] at h;exact Option.some.inj h
 have hd:=decode_ascii (strB s) i (by rw [kga];exact hi) (by rw [J2a s i hi,e];exact hc)
 unfold K0a jNa
 rw [hd,J2a s i hi,e]
 exact ⟨rfl,rfl⟩
theorem wOb {s:Str} {i:Nat} {c:UInt8} (h:s[i]? =some c) (hc:128≤c.toNat):128≤K0a s i∧K0a s i≤2147483647∧1≤jNa s i:=by
 have hi:=kca h
 have e:s[i]=c:=by rw [List.getElem?_eq_getElem hi] at h;exact Option.some.inj h
 have hd:=decode_high (strB s) i (by rw [kga];exact hi) (by rw [J2a s i hi,e];exact hc)
 have hl:=decode_le (strB s) i
 unfold K0a jNa
 exact ⟨by omega,by omega,hd.2⟩
theorem k4b (s:ByteArray) (pos:Nat):∀k,1≤k→k < (Utf8.decode s pos).2→(s.get! (pos+k)).toNat / 64=2:=by
 intro k h1 h2
 simp only [Utf8.decode] at h2
 repeat' split at h2
 all_goals first
  | (exfalso;simp at h2;omega)
  | (
   rename_i hq _
   simp only [Bool.and_eq_true,decide_eq_true_eq,beq_iff_eq] at hq
   have h2:k < 2:=h2
   obtain rfl:k=1:=by omega
   exact hq.2.2)
  | (
   rename_i hq _
   simp only [Bool.and_eq_true,decide_eq_true_eq,beq_iff_eq] at hq
   have h2:k < 3:=h2
   have:k=1∨k=2:=by omega
   rcases this with rfl | rfl
   ·exact hq.1.2.2
   ·exact hq.2.2)
  | (
   rename_i hq _
   simp only [Bool.and_eq_true,decide_eq_true_eq,beq_iff_eq] at hq
   have h2:k < 4:=h2
   have:k=1∨k=2∨k=3:=by omega
   rcases this with rfl | rfl | rfl
   ·exact hq.1.1.2.2
   ·exact hq.1.2.2
   ·exact hq.2.2)
theorem wPb {s:Str} {i j:Nat} {c d:UInt8} (h:s[i]? =some c) (hc:128≤c.toNat) (h1:i≤j) (h2:j < i+jNa s i) (hj:s[j]? =some d):128≤d.toNat:=by
 by_cases e:j=i
 ·subst e;rw [h] at hj;cases hj;exact hc
 ·have hjl:=kca hj
  have e2:s[j]=d:=by rw [List.getElem?_eq_getElem hjl] at hj;exact Option.some.inj hj
  have:=k4b (strB s) i (j - i) (by omega) (by unfold jNa at h2;omega)
  rw [show i+(j - i)=j by omega,wNb s j hjl,e2] at this
  omega
theorem toU8_nat (c:UInt8):toU8 (c.toNat:Int)=c:=by
 unfold toU8
 have:=c.toNat_lt
 rw [show ((c.toNat:Int) % 256).toNat=c.toNat by omega]
 simp
theorem Jia {t:Str} (h:Jaa t=true) {c:UInt8} (hc:c∈t):c.toNat < 128:=by
 unfold Jaa at h
 rw [List.all_eq_true] at h
 simpa using h c hc
theorem vvb {r:Int} (h:128≤r):∃m x,1≤m∧m≤3∧(w0a r).length=m+1∧(w0a r)[m]? =some x∧128≤x.toNat:=by
 unfold w0a
 simp only [Utf8.encode]
 have hc:128≤(if Utf8.valid r=true then r.toNat else Utf8.runeError):=by
  split
  ·omega
  ·decide
 generalize (if Utf8.valid r=true then r.toNat else Utf8.runeError)=c at hc
 have hb:∀n:Nat,128≤(UInt8.ofNat (128+n % 64)).toNat:=by
  intro n
  rw [UInt8.toNat_ofNat']
  have:(128+n % 64) % 2 ^ 8=128+n % 64:=Nat.mod_eq_of_lt (by omega)
  rw [this];omega
 rw [if_neg (by omega)]
 split
 ·exact ⟨1,_,by omega,by omega,rfl,rfl,hb c⟩
 ·split
  ·exact ⟨2,_,by omega,by omega,rfl,rfl,hb c⟩
  ·exact ⟨3,_,by omega,by omega,rfl,rfl,hb c⟩
theorem YHa {t:Str} (h:∀c∈t,c.toNat < 128) {x:UInt8} (hx:128≤x.toNat):Lib.indexByte t x= -1:=by
 have hc:=Lib.contains_iff_indexByte t x
 have hn:t.contains x=false:=by
  rw [Bool.eq_false_iff]
  intro hm
  have:=h x (by simpa using hm)
  omega
 rw [hn] at hc
 have hge:=Lib.indexByte_ge t x
 have:=of_decide_eq_false hc.symm
 omega
theorem W3a (t:Str) (c:UInt8) (hc:c.toNat < 128):kta t (c.toNat:Int)=some (Lib.indexByte t c):=by
 unfold kta
 have h1:decide ((0:Int)≤(c.toNat:Int))=true:=by simp
 have h2:decide ((c.toNat:Int) < 128)=true:=by simp;omega
 rw [h1,h2]
 simp only [cond_true,Option.bind_some,toU8_nat]
 rfl
theorem YIa (t:Str) (r:Int) (hr:128≤r) (ht:∀c∈t,c.toNat < 128) (hl:t.length≤4294967281):kta t r=some (-1):=by
 unfold kta
 have h1:decide ((0:Int)≤r)=true:=by simp;omega
 have h2:decide (r < 128)=false:=by simp;omega
 rw [h1,h2]
 simp only [cond_true,cond_false,Option.bind_some]
 cases hq:r==65533 with
 | true=>
  simp only [cond_true]
  obtain ⟨o,ho,rfl⟩:=JXa (body:=qra t) (fun i=> i≤t.length) (fun i=> t.length - i) (fun _ o=> o= .inl ()) (fun i hi=> by
   unfold qra
   by_cases hlt:i < t.length
   ·right
    have hg:t[i]? =some t[i]:=List.getElem?_eq_getElem hlt
    have hc:=ht t[i] (List.getElem_mem hlt)
    obtain ⟨e1,e2⟩:=Jha hg hc
    rw [e1,e2,decide_eq_true hlt]
    have hne:((t[i].toNat:Int)==65533)=false:=by rw [beq_eq_false_iff_ne];omega
    rw [hne]
    exact ⟨i+1,rfl,by omega,by omega,fun _ h=> h⟩
   ·left
    rw [decide_eq_false hlt]
    exact ⟨.inl (),rfl,rfl⟩) 0 (Nat.zero_le _)
  rw [ho];rfl
 | false=>
  simp only [cond_false]
  have hv:∃b,kDa r=some b:=by
   unfold kDa
   cases decide (0≤r) <;> cases decide (r < 55296) <;> cases decide (57343 < r) <;> cases decide (r≤1114111) <;> exact ⟨_,rfl⟩
  obtain ⟨b,hb⟩:=hv
  rw [hb]
  simp only [Option.bind_some]
  cases b with
  | false=> rfl
  | true=>
   simp only [Bool.not_true,cond_false]
   obtain ⟨m,x,hm1,hm3,hlen,hx,hx128⟩:=vvb hr
   have hst:w64 (((w0a r).length:Int) - 1)=(m:Int):=by rw [hlen,z0a (by omega) (by omega)];omega
   rw [hst]
   have hbody:∃o,qta t r (m:Int)=some (.out o)∧(o= .inl ()∨o= .inr (-1)):=by
    unfold qta
    by_cases hlt:m < t.length
    ·have hd:decide ((m:Int) < (t.length:Int))=true:=by simp;omega
     have hc:=ht t[m] (List.getElem_mem hlt)
     rw [hd,hst,QVa hlt,zYa hx]
     have hne:((t[m].toNat:Int) !=(x.toNat:Int))=true:=by simp;omega
     simp only [cond_true,Option.bind_some,hne]
     rw [show (m:Int)+1=((m+1:Nat):Int) by omega,zNb _ (by omega),y3a (by omega)]
     simp only [Option.bind_some]
     have hib:z3a (t.drop (m+1)) x=some (-1):=by
      show some (Lib.indexByte (t.drop (m+1)) x)=_
      rw [YHa (fun c hc=> ht c (List.mem_of_mem_drop hc)) hx128]
     rw [hib]
     exact ⟨.inr (-1),rfl, .inr rfl⟩
    ·have hd:decide ((m:Int) < (t.length:Int))=false:=by simp;omega
     rw [hd]
     exact ⟨.inl (),rfl, .inl rfl⟩
   obtain ⟨o,ho,ho2⟩:=hbody
   rw [zHa ho]
   rcases ho2 with rfl | rfl <;> rfl
theorem zSb (s t:Str) (h8:s.length≤8) (h2:2≤t.length) (hl:t.length < 4294967281) (ht:Jaa t=true):vua s t=some (Lib.indexAny s t):=by
 have htc:∀c∈t,c.toNat < 128:=fun c hc=> Jia ht hc
 unfold vua
 have e1:(t==([]:Str))=false:=by rw [beq_eq_false_iff_ne];rintro rfl;simp at h2
 have e2:((t.length:Int)==1)=false:=by rw [beq_eq_false_iff_ne];omega
 have e3:zTa (s.length:Int)=some false:=by unfold zTa;simp;omega
 rw [e1,e2,e3]
 simp only [cond_false,Option.bind_some]
 obtain ⟨o,ho,ho2⟩:=JXa (body:=qua s t) (fun i=> Lib.NoAny s t i) (fun i=> s.length - i) (fun _ o=> Sum.elim (fun _=> some (-1)) (fun b=> some b) o=some (Lib.indexAny s t)) (fun i hi=> by
  unfold qua
  by_cases hlt:i < s.length
  ·have hg:s[i]? =some s[i]:=List.getElem?_eq_getElem hlt
   rw [decide_eq_true hlt]
   simp only [cond_true]
   by_cases hc:s[i].toNat < 128
   ·obtain ⟨q1,q2⟩:=Jha hg hc
    rw [q1,q2,W3a t _ hc]
    simp only [Option.bind_some]
    have hcon:=Lib.contains_iff_indexByte t s[i]
    rw [←hcon]
    cases hin:t.contains s[i] with
    | true=>
     left
     exact ⟨.inr (i:Int),rfl,by rw [Lib.indexAny_hit hi hg hin];rfl⟩
    | false=>
     right
     exact ⟨i+1,rfl,hi.succ hg hin,by omega,fun _ h=> h⟩
   ·have hc:128≤s[i].toNat:=by omega
    obtain ⟨q1,q2,q3⟩:=wOb hg hc
    rw [YIa t _ q1 htc (by omega)]
    right
    refine ⟨i+jNa s i,rfl,fun j b hj hb=> ?_,by omega,fun _ h=> h⟩
    by_cases hji:j < i
    ·exact hi j b hji hb
    ·have:=wPb hg hc (by omega) hj hb
     rw [Bool.eq_false_iff]
     intro hm
     have:=htc b (by simpa using hm)
     omega
  ·left
   rw [decide_eq_false hlt]
   refine ⟨.inl (),rfl, ?_⟩
   have hn:Lib.NoAny s t s.length:=fun j b hj hb=> hi j b (by omega) hb
   rw [Lib.indexAny_none hn];rfl) 0 (Lib.NoAny.zero s t)
 rw [ho];exact ho2
end Go.Proofs.YtjnmamghadpedaaGreatDoor
namespace Go.Proofs.YtjnmamghadpedaaGreatDoor
open Go.RowKit
theorem zTb (t:Str):∀s:Str,decide (0≤Lib.indexAny s t)=s.any fun c=> t.contains c:=by
 intro s
 induction s with
 | nil=> rfl
 | cons c s ih=>
  have hge:=Lib.indexAny_ge t s
  rw [List.any_cons,←ih,Lib.indexAny]
  cases t.contains c with
  | true=> simp
  | false=>
   simp only [Bool.false_eq_true,if_false,Bool.false_or]
   by_cases h:Lib.indexAny s t= -1
   ·simp [h]
   ·have:(Lib.indexAny s t== -1)=false:=by simpa using h
    rw [this]
    simp only [Bool.false_eq_true,if_false]
    rw [Bool.eq_iff_iff];simp;omega
theorem wIa (s t:Str) (hs:s.length≤1048576) (h2:2≤t.length) (hl:t.length≤1048576) (ht:Jaa t=true):zRa s t=some (s.any fun c=> t.contains c):=by
 unfold zRa qea
 rw [if_pos ⟨by omega,by omega,h2,ht⟩]
 simp only [Option.bind_some,zTb]
end Go.Proofs.YtjnmamghadpedaaGreatDoor
namespace Go.Proofs.YtjnmamghadpedaaGreatDoor
open Go.RowKit
set_option maxHeartbeats 1000000
def yma (c:UInt8):Bool:=c==32 || c==9
theorem Jja (c:UInt8):wxa c=some (yma c):=by
 unfold wxa yma
 rw [v6a c 32 (by decide),v6a c 9 (by decide)]
 cases c==32 <;> rfl
theorem K6a (c:UInt8):via c=some (yma c):=by
 unfold via yma
 rw [v6a c 32 (by decide),v6a c 9 (by decide)]
 cases c==32 <;> rfl
def fnC (c:UInt8):Bool:=decide (33≤c) && decide (c≤126) && c !=58
def fnP (s:Str):Bool:=s !=([]:Str) && decide (s.length≤60) && s.all fnC
theorem dec60 (s:Str):decide ((s.length:Int)≤60)=decide (s.length≤60):=by generalize s.length=n;rw [Bool.eq_iff_iff];simp;omega
theorem zUb (s:Str) (hs:s.length≤1048576):Z1a s=some (fnP s):=by
 have hloop:iter (w1a s) 0=some ((zUa (fun _ c=> if !fnC c then some () else none) 0 s).elim (.inl ()) .inr):=by
  refine zQa s _ (Sum.inl ()) Sum.inr ?_ ?_
  ·unfold w1a;rw [z1a];rfl
  ·intro i c hc
   have hi:=kca hc
   unfold w1a
   rw [kAa hc,zYa hc]
   simp only [cond_true,Option.bind_some,Qma c 58 (by decide),jua 33 c (by decide),jva 126 c (by decide),sc i (by omega)]
   unfold fnC
   cases decide ((33:UInt8)≤c) <;> cases decide (c≤126) <;> cases c !=58 <;> rfl
 unfold Z1a fnP
 rw [hloop]
 simp only [Option.bind_some,K5a,Zna,W1a,dec60]
 cases s !=([]:Str) <;> cases decide (s.length≤60) <;> cases s.all fnC <;> rfl
def endC (c:UInt8):Bool:=c==13 || c==10 || c==0
theorem zVb (s:Str) (hs:s.length≤1048576):Z2a s=some (s.any endC):=by
 unfold Z2a
 rw [wIa s _ hs (by decide) (by decide) (by decide)]
 simp only [Option.bind_some,Option.some.injEq]
 congr 1
 funext c
 rw [Bool.eq_iff_iff]
 simp [endC,or_assoc]
def wQb (s:Str):Bool:=match s.head?,s.getLast? with | some a,some b=> yma a || yma b | _,_=> false
def valP (s:Str):Bool:= !(s.any endC) && !(wQb s)
theorem qGb (s:Str) (h:s≠ []) (hs:s.length≤1048576):∃a b,idx s 0=some a∧idx s (w64 ((s.length:Int) - 1))=some b∧s.head? =some a∧s.getLast? =some b:=by
 have hpos:=List.length_pos_iff.2 h
 obtain ⟨a,r,rfl⟩:=List.exists_cons_of_ne_nil h
 have e:w64 (((a::r).length:Int) - 1)=((r.length:Nat):Int):=by
  have hl:(a::r).length=r.length+1:=rfl
  rw [z0a (by omega) (by omega)];omega
 refine ⟨a,(a::r).getLast h,rfl, ?_,rfl,List.getLast?_eq_some_getLast h⟩
 rw [e,yga,List.getLast_eq_getElem h,List.getElem?_eq_getElem (by simp)]
 congr 2
theorem J3a (s:Str) (hs:s.length≤1048576):jQa s=some (valP s):=by
 unfold jQa valP
 rw [zVb s hs]
 simp only [Option.bind_some]
 by_cases hn:s= []
 ·subst hn;rfl
 ·obtain ⟨a,b,h1,h2,h3,h4⟩:=qGb s hn hs
  have e:(s==([]:Str))=false:=by simpa using hn
  unfold wQb
  rw [h1,h2,h3,h4,e]
  simp only [Option.bind_some,K6a,cond_false]
  cases s.any endC <;> cases yma a <;> cases yma b <;> rfl
def br (t:Str) (f i:Nat):Bool:=decide (1≤i) && decide (f≤i) && (match t[i]?,t[i - 1]? with | some a,some b=> yma a && !yma b | _,_=> false)
def VCa (t:Str) (f:Nat):Nat→Nat
 | 0=> 0
 | i+1=> if br t f (i+1) then i+1 else VCa t f i
def J4a (t:Str) (f:Nat):Nat→Nat→Nat
 | 0,_=> 0
 | n+1,i=> if br t f i then i else J4a t f n (i+1)
def cutP (t:Str) (f:Nat):Nat:=if VCa t f 78=0 then J4a t f (t.length - 79) 79 else VCa t f 78
def k5b (t:Str) (f c:Nat):Prop:=(c=0∧∀j,br t f j=false)∨(br t f c=true∧((c≤78∧∀j,c < j→j≤78→br t f j=false)∨(78 < c∧∀j,j < c→br t f j=false)))
theorem wRb (t:Str) (f:Nat):br t f 0=false:=rfl
theorem k6b {t:Str} {f i:Nat} (h:br t f i=true):i < t.length∧1≤i∧f≤i:=by
 unfold br at h
 simp only [Bool.and_eq_true,decide_eq_true_eq] at h
 obtain ⟨⟨h1,h2⟩,h3⟩:=h
 refine ⟨?_,h1,h2⟩
 cases hi:t[i]? with
 | none=> rw [hi] at h3;simp at h3
 | some a=> exact kca hi
theorem zWb {t:Str} {f c d:Nat} (h:k5b t f c) (k:k5b t f d):c=d:=by
 rcases h with ⟨rfl,h⟩ | ⟨hc,h⟩ <;> rcases k with ⟨rfl,k⟩ | ⟨hd,k⟩
 ·rfl
 ·rw [h] at hd;cases hd
 ·rw [k] at hc;cases hc
 ·rcases Nat.lt_trichotomy c d with hlt | heq | hgt
  ·exfalso
   rcases h with ⟨h1,h2⟩ | ⟨h1,h2⟩ <;> rcases k with ⟨k1,k2⟩ | ⟨k1,k2⟩
   ·rw [h2 d hlt k1] at hd;cases hd
   ·rw [k2 c hlt] at hc;cases hc
   ·omega
   ·rw [k2 c hlt] at hc;cases hc
  ·exact heq
  ·exfalso
   rcases h with ⟨h1,h2⟩ | ⟨h1,h2⟩ <;> rcases k with ⟨k1,k2⟩ | ⟨k1,k2⟩
   ·rw [k2 c hgt h1] at hc;cases hc
   ·omega
   ·rw [h2 d hgt] at hd;cases hd
   ·rw [h2 d hgt] at hd;cases hd
theorem vwb (t:Str) (f:Nat):∀n,(VCa t f n=0∧∀j,j≤n→br t f j=false)∨(br t f (VCa t f n)=true∧VCa t f n≤n∧∀j,VCa t f n < j→j≤n→br t f j=false):=by
 intro n
 induction n with
 | zero=> left;exact ⟨rfl,fun j hj=> by
     obtain rfl:j=0:=by omega
     exact wRb t f⟩
 | succ n ih=>
  unfold VCa
  by_cases h:br t f (n+1)=true
  ·rw [if_pos h];right;exact ⟨h,Nat.le_refl _,fun j h1 h2=> by omega⟩
  ·rw [if_neg h]
   rcases ih with ⟨h1,h2⟩ | ⟨h1,h2,h3⟩
   ·left
    refine ⟨h1,fun j hj=> ?_⟩
    by_cases e:j=n+1
    ·subst e;simpa using h
    ·exact h2 j (by omega)
   ·right
    refine ⟨h1,by omega,fun j hj hjn=> ?_⟩
    by_cases e:j=n+1
    ·subst e;simpa using h
    ·exact h3 j hj (by omega)
theorem vxb (t:Str) (f:Nat):∀n i,(J4a t f n i=0∧∀j,i≤j→j < i+n→br t f j=false)∨(br t f (J4a t f n i)=true∧i≤J4a t f n i∧∀j,i≤j→j < J4a t f n i→br t f j=false):=by
 intro n
 induction n with
 | zero=> intro i;left;exact ⟨rfl,fun j h1 h2=> by omega⟩
 | succ n ih=>
  intro i
  unfold J4a
  by_cases h:br t f i=true
  ·rw [if_pos h];right;exact ⟨h,Nat.le_refl _,fun j h1 h2=> by omega⟩
  ·rw [if_neg h]
   have hb:br t f i=false:=by simpa using h
   rcases ih (i+1) with ⟨h1,h2⟩ | ⟨h1,h2,h3⟩
   ·left
    refine ⟨h1,fun j hj hjn=> ?_⟩
    by_cases e:j=i
    ·subst e;exact hb
    ·exact h2 j (by omega) (by omega)
   ·right
    refine ⟨h1,by omega,fun j hj hjn=> ?_⟩
    by_cases e:j=i
    ·subst e;exact hb
    ·exact h3 j (by omega) hjn
theorem wSb (t:Str) (f:Nat):k5b t f (cutP t f):=by
 unfold cutP
 rcases vwb t f 78 with ⟨h1,h2⟩ | ⟨h1,h2,h3⟩
 ·rw [if_pos h1]
  rcases vxb t f (t.length - 79) 79 with ⟨k1,k2⟩ | ⟨k1,k2,k3⟩
  ·left
   refine ⟨k1,fun j=> ?_⟩
   by_cases hj:j≤78
   ·exact h2 j hj
   ·cases hb:br t f j with
    | false=> rfl
    | true=> have:=(k6b hb).1;rw [k2 j (by omega) (by omega)] at hb;cases hb
  ·right
   refine ⟨k1, .inr ⟨by omega,fun j hj=> ?_⟩⟩
   by_cases hj2:j≤78
   ·exact h2 j hj2
   ·exact k3 j (by omega) hj
 ·have hne:VCa t f 78≠0:=by intro h;rw [h,wRb] at h1;cases h1
  rw [if_neg hne]
  exact .inr ⟨h1, .inl ⟨h2,h3⟩⟩
theorem KGa {t:Str} {f:Nat} (h:cutP t f≠0):1≤cutP t f∧cutP t f < t.length:=by
 rcases wSb t f with ⟨h1,_⟩ | ⟨h1,_⟩
 ·exact absurd h1 h
 ·exact ⟨(k6b h1).2.1,(k6b h1).1⟩
theorem br_at {t:Str} {f i:Nat} (h1:1≤i) (hi:i < t.length):br t f i=(decide (f≤i) && (yma t[i] && !yma (t[i - 1]'(by omega)))):=by
 unfold br
 rw [List.getElem?_eq_getElem hi,List.getElem?_eq_getElem (show i - 1 < t.length by omega)]
 simp [h1]
def PInv (t:Str) (f b i:Nat):Prop:=f≤i∧1≤i∧((b=0∧∀j,j < i→br t f j=false)∨(br t f b=true∧b < i∧((b≤78∧∀j,b < j→j < i→br t f j=false)∨(78 < b∧∀j,j < b→br t f j=false))))
theorem PInv.done {t:Str} {f b i:Nat} (h:PInv t f b i) (hi:0 < b∧78 < i∨t.length≤i):k5b t f b:=by
 obtain ⟨hf,h1,h2⟩:=h
 rcases h2 with ⟨rfl,h3⟩ | ⟨h3,h4,h5⟩
 ·left
  refine ⟨rfl,fun j=> ?_⟩
  cases hb:br t f j with
  | false=> rfl
  | true=>
   have:=(k6b hb).1
   rw [h3 j (by omega)] at hb;cases hb
 ·right
  refine ⟨h3, ?_⟩
  rcases h5 with ⟨h6,h7⟩ | h6
  ·left
   refine ⟨h6,fun j hj hj2=> ?_⟩
   cases hb:br t f j with
   | false=> rfl
   | true=>
    have:=(k6b hb).1
    rw [h7 j hj (by omega)] at hb;cases hb
  ·exact .inr h6
theorem J5a (t:Str) (f:Nat) (ht:t.length≤4194304) (hf:f≤4194304):jRa t (f:Int)=some ((cutP t (max f 1):Nat):Int):=by
 unfold jRa
 have hstart:max (f:Int) 1=((max f 1:Nat):Int):=by omega
 rw [hstart]
 obtain ⟨r,h1,b,rfl,h2⟩:=JXa (body:=ypa t) (fun s=> ∃b i:Nat,s=((b:Int),(i:Int))∧PInv t (max f 1) b i∧i≤4194305) (fun s=> (4194306 - s.2).toNat) (fun _ r=> ∃c:Nat,r=(c:Int)∧k5b t (max f 1) c) (by
  rintro _ ⟨b,i,rfl,hI,hil⟩
  have hi1:=hI.2.1
  unfold ypa
  dsimp only
  by_cases hlt:i < t.length
  ·have hd:decide ((i:Int) < (t.length:Int))=true:=by simp;omega
   have hpre:w64 ((i:Int) - 1)=((i - 1:Nat):Int):=by rw [z0a (by omega) (by omega)];omega
   rw [hd,QVa hlt,hpre,QVa (show i - 1 < t.length by omega)]
   have hb:=br_at (f:=max f 1) hi1 hlt
   have hfi:decide (max f 1≤i)=true:=by simp only [decide_eq_true_eq];exact hI.1
   rw [hfi,Bool.true_and] at hb
   simp only [cond_true,Option.bind_some,K6a]
   have next:∀b' :Nat,PInv t (max f 1) b' (i+1)→qMa ((b:Int),(i:Int)) (b' :Int)=some (.cont ((b' :Int),((i+1:Nat):Int))):=by
    intro b' _
    unfold qMa
    dsimp only
    rw [sc i (by omega)]
   have hno:br t (max f 1) i=false→PInv t (max f 1) b (i+1):=by
    intro hnb
    refine ⟨by have:=hI.1;omega,by omega, ?_⟩
    rcases hI.2.2 with ⟨q1,q2⟩ | ⟨q1,q2,q3⟩
    ·left
     refine ⟨q1,fun j hj=> ?_⟩
     by_cases e:j=i
     ·subst e;exact hnb
     ·exact q2 j (by omega)
    ·right
     refine ⟨q1,by omega, ?_⟩
     rcases q3 with ⟨q4,q5⟩ | q4
     ·left
      refine ⟨q4,fun j hj hj2=> ?_⟩
      by_cases e:j=i
      ·subst e;exact hnb
      ·exact q5 j hj (by omega)
     ·exact .inr q4
   have goNo:br t (max f 1) i=false→(∃s',qMa ((b:Int),(i:Int)) (b:Int)=some (.cont s')∧(∃b i:Nat,s' =((b:Int),(i:Int))∧PInv t (max f 1) b i∧i≤4194305)∧(4194306 - s'.2).toNat < (4194306 - ((i:Int))).toNat∧∀r:Int,(∃c:Nat,r=(c:Int)∧k5b t (max f 1) c)→∃c:Nat,r=(c:Int)∧k5b t (max f 1) c):=by
    intro hnb
    exact ⟨_,next b (hno hnb),⟨b,i+1,rfl,hno hnb,by omega⟩,by dsimp only;omega,fun _ h=> h⟩
   cases ha:yma t[i] with
   | false=>
    rw [ha] at hb
    simp only [Bool.not_false,cond_true,Option.bind_some]
    exact .inr (goNo hb)
   | true=>
    rw [ha] at hb
    simp only [Bool.not_true,cond_false,Option.bind_some]
    cases hp:yma t[i - 1] with
    | true=>
     rw [hp] at hb
     simp only [cond_true]
     exact .inr (goNo hb)
    | false=>
     rw [hp] at hb
     have hb:br t (max f 1) i=true:=hb
     simp only [cond_false]
     by_cases hb0:0 < b∧78 < i
     ·left
      have e1:decide ((0:Int) < (b:Int))=true:=by simp;omega
      have e2:decide ((78:Int) < (i:Int))=true:=by simp;omega
      rw [e1,e2]
      exact ⟨(b:Int),rfl,b,rfl,hI.done (.inl hb0)⟩
     ·right
      have e:(bif decide ((0:Int) < (b:Int)) then some (decide ((78:Int) < (i:Int))) else some false)=some false:=by
       by_cases h0:0 < b
       ·have e1:decide ((0:Int) < (b:Int))=true:=by simp;omega
        have e2:decide ((78:Int) < (i:Int))=false:=by simp;omega
        rw [e1,e2];rfl
       ·have e1:decide ((0:Int) < (b:Int))=false:=by simp;omega
        rw [e1];rfl
      rw [e]
      simp only [Option.bind_some,cond_false]
      have hnew:PInv t (max f 1) i (i+1):=by
       refine ⟨by have:=hI.1;omega,by omega, .inr ⟨hb,by omega, ?_⟩⟩
       by_cases h78:i≤78
       ·exact .inl ⟨h78,fun j h1 h2=> by omega⟩
       ·right
        refine ⟨by omega, ?_⟩
        rcases hI.2.2 with ⟨q1,q2⟩ | ⟨q1,q2,q3⟩
        ·exact q2
        ·exfalso
         have:=(k6b q1).2.1
         omega
      exact ⟨_,next i hnew,⟨i,i+1,rfl,hnew,by omega⟩,by dsimp only;omega,fun _ h=> h⟩
  ·left
   have hd:decide ((i:Int) < (t.length:Int))=false:=by simp;omega
   rw [hd]
   exact ⟨(b:Int),rfl,b,rfl,hI.done (.inr (by omega))⟩) ((0:Int),((max f 1:Nat):Int)) ⟨0,max f 1,rfl,⟨Nat.le_refl _,by omega, .inl ⟨rfl,fun j hj=> by
   cases hb:br t (max f 1) j with
   | false=> rfl
   | true=> have:=(k6b hb).2.2;omega⟩⟩,by omega⟩
 rw [h1]
 simp only [Option.bind_some]
 rw [zWb h2 (wSb t (max f 1))]
theorem R_cut_eq (t:Str) (f:Nat) (out:List Str) (ht:t.length≤4194304) (h78:78 < t.length) (hf:f≤4194304) (h1f:1≤f):((iter (kSa (t,(f:Int),out)) (0,78)).bind fun b10=> iter (kwa (t,(f:Int),out)) (b10,79))=some ((cutP t f:Nat):Int):=by
 have test:∀i:Nat,1≤i→i < t.length→((bif decide ((f:Int)≤(i:Int)) then (idx t (i:Int)).bind fun v18=> (wxa v18).bind fun v20=> (bif v20 then (idx t ((w64 ((i:Int) - 1)))).bind fun v23=> (wxa v23).bind fun v25=> some ((!v25)) else some false) else some false):Option Bool)=some (br t f i):=by
  intro i h1 h2
  have hpre:w64 ((i:Int) - 1)=((i - 1:Nat):Int):=by rw [z0a (by omega) (by omega)];omega
  rw [br_at h1 h2,QVa h2,hpre,QVa (show i - 1 < t.length by omega)]
  have e:decide ((f:Int)≤(i:Int))=decide (f≤i):=by rw [Bool.eq_iff_iff];simp
  rw [e]
  simp only [Option.bind_some,Jja]
  cases decide (f≤i) <;> cases yma t[i] <;> rfl
 have hdn:∀i:Nat,i≤78→iter (kSa (t,(f:Int),out)) (0,(i:Int))=some ((VCa t f i:Nat):Int):=by
  intro i
  induction i with
  | zero=> intro _;exact zHa (by unfold kSa;rfl)
  | succ i ih=>
   intro hi
   have hb:kSa (t,(f:Int),out) (0,((i+1:Nat):Int))=some (.cont ((bif br t f (i+1) then ((i+1:Nat):Int) else 0),(i:Int))):=by
    unfold kSa
    dsimp only
    have e1:decide ((0:Int) < ((i+1:Nat):Int))=true:=by rw [decide_eq_true_eq];omega
    have e2:w64 (((i+1:Nat):Int) - 1)=(i:Int):=by rw [z0a (by omega) (by omega)];omega
    rw [test (i+1) (by omega) (by omega),e1,e2]
    simp only [beq_self_eq_true,cond_true,Option.bind_some]
    cases br t f (i+1) <;> rfl
   rw [zOa hb]
   unfold VCa
   cases hq:br t f (i+1) with
   | false=> simpa using ih (by omega)
   | true=>
    simp only [cond_true,if_true]
    refine zHa ?_
    unfold kSa
    dsimp only
    have e3:((((i+1:Nat):Int))==0)=false:=by rw [beq_eq_false_iff_ne];omega
    rw [e3]
    cases decide ((0:Int) < (i:Int)) <;> rfl
 have h1:=hdn 78 (by omega)
 have e78:((78:Nat):Int)=78:=rfl
 rw [e78] at h1
 rw [h1]
 simp only [Option.bind_some]
 have hout:∀(c i:Nat),c≠0→iter (kwa (t,(f:Int),out)) ((c:Int),(i:Int))=some ((c:Nat):Int):=by
  intro c i hc
  refine zHa ?_
  unfold kwa
  dsimp only
  have e3:((c:Int)==0)=false:=by rw [beq_eq_false_iff_ne];omega
  rw [e3]
  cases decide ((i:Int) < (t.length:Int)) <;> rfl
 have hup:∀n i:Nat,i+n=t.length→1≤i→iter (kwa (t,(f:Int),out)) (0,(i:Int))=some ((J4a t f n i:Nat):Int):=by
  intro n
  induction n with
  | zero=>
   intro i hi _
   refine zHa ?_
   unfold kwa
   dsimp only
   have:decide ((i:Int) < (t.length:Int))=false:=by rw [decide_eq_false_iff_not];omega
   rw [this];rfl
  | succ n ih=>
   intro i hi h1i
   have hb:kwa (t,(f:Int),out) (0,(i:Int))=some (.cont ((bif br t f i then (i:Int) else 0),((i+1:Nat):Int))):=by
    unfold kwa
    dsimp only
    have e1:decide ((i:Int) < (t.length:Int))=true:=by simp;omega
    rw [test i h1i (by omega),e1,sc i (by omega)]
    simp only [beq_self_eq_true,cond_true,Option.bind_some]
    cases br t f i <;> rfl
   rw [zOa hb]
   unfold J4a
   cases hq:br t f i with
   | false=> simpa using ih (i+1) (by omega) (by omega)
   | true=>
    simp only [cond_true,if_true]
    exact hout i (i+1) (by omega)
 unfold cutP
 have e79:((79:Nat):Int)=79:=rfl
 by_cases h0:VCa t f 78=0
 ·rw [if_pos h0,h0]
  have:=hup (t.length - 79) 79 (by omega) (by omega)
  rw [e79] at this
  exact this
 ·rw [if_neg h0]
  have:=hout (VCa t f 78) 79 h0
  rw [e79] at this
  exact this
end Go.Proofs.YtjnmamghadpedaaGreatDoor
namespace Go.Proofs.YtjnmamghadpedaaGreatDoor
open Go.RowKit
set_option maxHeartbeats 1000000
def Q0a:Nat→Str→Nat→List Str
 | 0,t,_=> [t]
 | n+1,t,f=> if 78 < t.length then (if cutP t f=0 then [t] else t.take (cutP t f)::Q0a n (t.drop (cutP t f)) 1) else [t]
theorem J6a:∀(n m:Nat) (t:Str) (f:Nat),t.length≤n→t.length≤m→Q0a n t f=Q0a m t f:=by
 intro n
 induction n with
 | zero=>
  intro m t f h1 h2
  cases m with
  | zero=> rfl
  | succ m=> unfold Q0a;rw [if_neg (by omega)]
 | succ n ih=>
  intro m t f h1 h2
  cases m with
  | zero=> unfold Q0a;rw [if_neg (by omega)]
  | succ m=>
   unfold Q0a
   split
   ·split
    ·rfl
    ·rename_i hc
     have:=KGa hc
     rw [ih m _ 1 (by simp;omega) (by simp;omega)]
   ·rfl
def y4a (t:Str) (f:Nat):List Str:=Q0a t.length t f
theorem V0a {t:Str} {f:Nat} (h:78 < t.length) (hc:cutP t f≠0):y4a t f=t.take (cutP t f)::y4a (t.drop (cutP t f)) 1:=by
 unfold y4a
 obtain ⟨n,hn⟩:∃n,t.length=n+1:=⟨t.length - 1,by omega⟩
 have hp:=KGa hc
 rw [hn,Q0a,if_pos h,if_neg hc]
 rw [J6a n (t.drop (cutP t f)).length _ 1 (by simp;omega) (Nat.le_refl _)]
theorem wRa {t:Str} {f:Nat} (h:¬78 < t.length∨cutP t f=0):y4a t f= [t]:=by
 unfold y4a
 cases hn:t.length with
 | zero=> rfl
 | succ n=>
  rw [Q0a]
  rcases h with h | h
  ·rw [if_neg h]
  ·split
   ·rfl
   ·rfl
theorem V1a:∀(n:Nat) (t:Str) (f:Nat),t.length≤n→(y4a t f).flatten=t∧(y4a t f).length≤t.length+1:=by
 intro n
 induction n with
 | zero=> intro t f h;rw [wRa (.inl (by omega))];simp
 | succ n ih=>
  intro t f h
  by_cases h78:78 < t.length
  ·by_cases hc:cutP t f=0
   ·rw [wRa (.inr hc)];simp
   ·have hp:=KGa hc
    rw [V0a h78 hc]
    obtain ⟨h1,h2⟩:=ih (t.drop (cutP t f)) 1 (by simp;omega)
    rw [List.flatten_cons,h1]
    refine ⟨by simp, ?_⟩
    simp only [List.length_cons,List.length_drop] at h2 ⊢
    omega
  ·rw [wRa (.inl h78)];simp
theorem Jka {body:Str × Int × List Str→Option (Step (Str × Int × List Str) (Str × List Str))} (enc:Nat→Int) (g:Nat)
  (h:∀(t:Str) (f:Nat) (out:List Str),t.length≤4194304→out.length≤4194305→f≤4194304→body (t,enc f,out)=some (if 78 < t.length then (if cutP t (max f 1)=0 then .out (t,out) else .cont (t.drop (cutP t (max f 1)),enc g,out++ [t.take (cutP t (max f 1))])) else .out (t,out))) (h0:max g 1=1):
  ∀(n:Nat) (t:Str) (f:Nat) (out:List Str),t.length≤n→t.length≤4194304→out.length+t.length≤4194305→f≤4194304→∃last init,iter body (t,enc f,out)=some (last,init)∧init++ [last]=out++y4a t (max f 1):=by
 intro n
 induction n with
 | zero=>
  intro t f out h1 h2 h3 h4
  have hb:=h t f out h2 (by omega) h4
  rw [if_neg (by omega)] at hb
  exact ⟨t,out,zHa hb,by rw [wRa (.inl (by omega))]⟩
 | succ n ih=>
  intro t f out h1 h2 h3 h4
  have hb:=h t f out h2 (by omega) h4
  by_cases h78:78 < t.length
  ·rw [if_pos h78] at hb
   by_cases hc:cutP t (max f 1)=0
   ·rw [if_pos hc] at hb
    exact ⟨t,out,zHa hb,by rw [wRa (.inr hc)]⟩
   ·rw [if_neg hc] at hb
    have hp:=KGa hc
    obtain ⟨last,init,q1,q2⟩:=ih (t.drop (cutP t (max f 1))) g (out++ [t.take (cutP t (max f 1))]) (by simp;omega) (by simp;omega) (by simp;omega) (by omega)
    refine ⟨last,init,(zOa hb).trans q1, ?_⟩
    rw [q2,h0,V0a h78 hc];simp
  ·rw [if_neg h78] at hb
   exact ⟨t,out,zHa hb,by rw [wRa (.inl h78)]⟩
def txt (n v:Str):Str:=n++ [58,32]++v
def flP (n v:Str):List Str:=y4a (txt n v) (n.length+2)
theorem wTb (t:Str) (f:Nat) (ht:t.length≤4194304) (hf:f≤4194304):∃last init,iter w2a (t,(f:Int),([]:List Str))=some (last,init)∧init++ [last]=y4a t (max f 1):=by
 have:=Jka (body:=w2a) (fun n=> (n:Int)) 0 (fun t f out h1 h2 h3=> by
  unfold w2a
  dsimp only
  by_cases h78:78 < t.length
  ·have hd:decide ((78:Int) < (t.length:Int))=true:=by rw [decide_eq_true_eq];omega
   rw [hd,if_pos h78,J5a t f h1 h3]
   simp only [cond_true,Option.bind_some]
   by_cases hc:cutP t (max f 1)=0
   ·rw [if_pos hc,hc];rfl
   ·have hp:=KGa hc
    have e:(((cutP t (max f 1):Nat):Int)==0)=false:=by rw [beq_eq_false_iff_ne];omega
    rw [if_neg hc,e,QWa (by omega),y3a (by omega)]
    simp only [cond_false,Option.bind_some]
    rw [koa (by simp;omega)];rfl
  ·have hd:decide ((78:Int) < (t.length:Int))=false:=by rw [decide_eq_false_iff_not];omega
   rw [hd,if_neg h78];rfl) (by decide) t.length t f [] (Nat.le_refl _) ht (by simp;omega) hf
 simpa using this
theorem ref_loop (t:Str) (f:Nat) (ht:t.length≤4194304) (hf:f≤4194304) (h1f:1≤f):∃last init,iter vka (t,(f:Int),([]:List Str))=some (last,init)∧init++ [last]=y4a t f:=by
 have:=Jka (body:=vka) (fun n=> ((max n 1:Nat):Int)) 1 (fun t f out h1 h2 h3=> by
  unfold vka
  dsimp only
  by_cases h78:78 < t.length
  ·have hd:decide ((78:Int) < (t.length:Int))=true:=by rw [decide_eq_true_eq];omega
   have hc0:=R_cut_eq t (max f 1) out h1 h78 (by omega) (by omega)
   obtain ⟨b10,hb10,hc1⟩:=Option.bind_eq_some_iff.1 hc0
   rw [hd,if_pos h78,hb10]
   simp only [cond_true,Option.bind_some]
   rw [hc1]
   simp only [Option.bind_some]
   by_cases hc:cutP t (max f 1)=0
   ·rw [if_pos hc,hc];rfl
   ·have hp:=KGa hc
    have e:(((cutP t (max f 1):Nat):Int)==0)=false:=by rw [beq_eq_false_iff_ne];omega
    rw [if_neg hc,e,QWa (by omega),y3a (by omega)]
    simp only [cond_false,Option.bind_some]
    rw [koa (by simp;omega)];rfl
  ·have hd:decide ((78:Int) < (t.length:Int))=false:=by rw [decide_eq_false_iff_not];omega
   rw [hd,if_neg h78];rfl) (by decide) t.length t f [] (Nat.le_refl _) ht (by simp;omega) hf
 have e:max f 1=f:=by omega
 rw [e] at this
 simpa using this
theorem wUb (n v:Str) (hn:n.length≤1048576) (hv:v.length≤1048576):cat n [58,32]=some (n++ [58,32])∧cat (n++ [58,32]) v=some (txt n v)∧w64 ((n.length:Int)+2)=((n.length+2:Nat):Int):=by
 refine ⟨kZa (by simp;omega),kZa (by simp;omega), ?_⟩
 rw [z0a (by omega) (by omega)];omega
theorem k7b (n v:Str):(txt n v).length=n.length+2+v.length:=by unfold txt;simp;omega
theorem Z7a (n v:Str) (hn:n.length≤1048576) (hv:v.length≤1048576):wea n v=some (flP n v):=by
 obtain ⟨h1,h2,h3⟩:=wUb n v hn hv
 have hl:=k7b n v
 obtain ⟨last,init,q1,q2⟩:=ref_loop (txt n v) (n.length+2) (by omega) (by omega) (by omega)
 unfold wea flP
 rw [h1]
 simp only [Option.bind_some]
 rw [h2]
 simp only [Option.bind_some]
 rw [h3,q1]
 simp only [Option.bind_some]
 have hj:=(V1a (txt n v).length (txt n v) (n.length+2) (Nat.le_refl _)).2
 rw [←q2] at hj
 simp at hj
 rw [koa (by simp;omega),q2];rfl
def W4a (i:Nat) (l:Str):Option Int:=if 998 < l.length then some (i:Int) else none
def k8b (n v:Str):List Str × zza:=
 if !fnP n then ([],⟨10, -1⟩) else if 4000 < v.length then ([],⟨1, -1⟩) else if !valP v then ([],⟨11, -1⟩) else match zUa W4a 0 (flP n v) with | some i=> ([],⟨1,i⟩) | none=> (flP n v,⟨0,0⟩)
theorem qHb (n v:Str):(flP n v).length≤n.length+v.length+3:=by
 have:=(V1a (txt n v).length (txt n v) (n.length+2) (Nat.le_refl _)).2
 have hl:=k7b n v
 unfold flP;omega
theorem dec998 (l:Str):decide ((998:Int) < (l.length:Int))=decide (998 < l.length):=by generalize l.length=n;rw [Bool.eq_iff_iff];simp;omega
theorem V2a (n v:Str) (hn:n.length≤1048576) (hv:v.length≤1048576):jSa n v=some (k8b n v):=by
 obtain ⟨h1,h2,h3⟩:=wUb n v hn hv
 have hl:=k7b n v
 obtain ⟨last,init,q1,q2⟩:=wTb (txt n v) (n.length+2) (by omega) (by omega)
 rw [show max (n.length+2) 1=n.length+2 by omega] at q2
 unfold jSa k8b
 rw [zUb n hn,J3a v hv]
 simp only [Option.bind_some,zPa,z6a]
 cases fnP n with
 | false=> rfl
 | true=>
  simp only [Bool.not_true,cond_false,Bool.false_eq_true,if_false]
  by_cases h4:4000 < v.length
  ·have hd:decide ((4000:Int) < (v.length:Int))=true:=by rw [decide_eq_true_eq];omega
   rw [hd,if_pos h4];rfl
  ·have hd:decide ((4000:Int) < (v.length:Int))=false:=by rw [decide_eq_false_iff_not];omega
   rw [hd,if_neg h4]
   simp only [cond_false]
   cases valP v with
   | false=> rfl
   | true=>
    simp only [Bool.not_true,cond_false,Bool.false_eq_true,if_false]
    rw [h1]
    simp only [Option.bind_some]
    rw [h2]
    simp only [Option.bind_some]
    rw [h3,q1]
    simp only [Option.bind_some]
    have hj:=qHb n v
    have hfl:flP n v=init++ [last]:=q2.symm
    have hj2:=hj
    rw [hfl] at hj2
    simp at hj2
    rw [koa (by simp;omega),←hfl]
    simp only [Option.bind_some]
    rw [zQa (flP n v) (fun i l=> (W4a i l).map fun k=> (([]:List Str),(⟨1,k⟩:zza))) (.inl ()) .inr]
    ·simp only [Option.bind_some]
     have hm:∀(l:List Str) (i:Nat),zUa (fun i l=> (W4a i l).map fun k=> (([]:List Str),(⟨1,k⟩:zza))) i l=(zUa W4a i l).map fun k=> (([]:List Str),(⟨1,k⟩:zza)):=by
      intro l
      induction l with
      | nil=> intro i;rfl
      | cons x l ih=> intro i;unfold zUa;rw [ih];cases W4a i x <;> rfl
     rw [hm]
     cases zUa W4a 0 (flP n v) <;> rfl
    ·unfold jra;rw [z1a];rfl
    ·intro i l hli
     have hi:=kca hli
     unfold jra W4a
     rw [kAa hli,zYa hli]
     simp only [cond_true,Option.bind_some,dec998,zPa,sc i (by omega)]
     by_cases h9:998 < l.length
     ·simp [h9]
     ·simp [h9]
end Go.Proofs.YtjnmamghadpedaaGreatDoor
namespace Go.Proofs.YtjnmamghadpedaaGreatDoor
open Go.RowKit
set_option maxHeartbeats 1000000
def ZJa (f:zga):Int:=(k8b f.Name f.Value).2.Code
def k9b (l:List Str):Bool:=l.any fun s=> decide (998 < s.length)
theorem Jla (l:List Str):∀n,(zUa W4a n l).isSome=k9b l:=by
 induction l with
 | nil=> intro n;rfl
 | cons x l ih=>
  intro n
  unfold zUa k9b W4a
  by_cases h:998 < x.length
  ·simp [h]
  ·simp only [h,if_false,List.any_cons,decide_false,Bool.false_or]
   exact ih (n+1)
def codeQ (n v:Str):Int:=if !fnP n then 10 else if 4000 < v.length then 1 else if !valP v then 11 else if k9b (flP n v) then 1 else 0
theorem qIb (f:zga):ZJa f=codeQ f.Name f.Value:=by
 unfold ZJa k8b codeQ
 rw [←Jla (flP f.Name f.Value) 0]
 split
 ·rfl
 ·split
  ·rfl
  ·split
   ·rfl
   ·cases zUa W4a 0 (flP f.Name f.Value) <;> rfl
theorem R_In_60 (s:Str):R_In (s.length:Int) 1 60=some (s !=([]:Str) && decide (s.length≤60)):=by
 rw [v8a]
 cases s with
 | nil=> rfl
 | cons c s=>
  have h:decide ((1:Int)≤((c::s).length:Int))=true:=by rw [decide_eq_true_eq];simp;omega
  rw [h,dec60];rfl
theorem elim_int (c:Int) (o:Option Unit) (f:Unit→Option Int):Sum.elim f (fun b=> some b) (o.elim (Sum.inl ()) (fun _=> Sum.inr c):Unit ⊕ Int)=bif o.isSome then some c else f ():=by cases o <;> rfl
theorem YJa (f:zga) (hn:f.Name.length≤1048576) (hv:f.Value.length≤1048576):yMa f=some (ZJa f):=by
 rw [qIb]
 unfold yMa
 have hl1:iter (vMa f) 0=some ((zUa (fun _ c=> if !fnC c then some () else none) 0 f.Name).elim (.inl ()) fun _=> .inr 10):=by
  refine zQa f.Name _ (Sum.inl ()) (fun _=> Sum.inr 10) ?_ ?_
  ·unfold vMa;rw [z1a];rfl
  ·intro i c hc
   have hi:=kca hc
   unfold vMa
   rw [kAa hc,zYa hc]
   simp only [cond_true,Option.bind_some,v8a,v6a c 58 (by decide),jua 33 c (by decide),jva 126 c (by decide),sc i (by omega)]
   unfold fnC bne
   cases decide ((33:UInt8)≤c) <;> cases decide (c≤126) <;> cases c==58 <;> rfl
 have hl2:iter (vNa f) 0=some ((zUa (fun _ c=> if endC c then some () else none) 0 f.Value).elim (.inl ()) fun _=> .inr 11):=by
  refine zQa f.Value _ (Sum.inl ()) (fun _=> Sum.inr 11) ?_ ?_
  ·unfold vNa;rw [z1a];rfl
  ·intro i c hc
   have hi:=kca hc
   unfold vNa
   rw [kAa hc,zYa hc]
   simp only [cond_true,Option.bind_some,v6a c 0 (by decide),v6a c 10 (by decide),v6a c 13 (by decide),sc i (by omega)]
   unfold endC
   cases c==0 <;> cases c==10 <;> cases c==13 <;> rfl
 have hl3:∀l:List Str,l.length≤4194304→iter (vOa l) 0=some ((zUa (fun _ c=> if decide (998 < c.length) then some () else none) 0 l).elim (.inl ()) fun _=> .inr 1):=by
  intro l hl
  refine zQa l _ (Sum.inl ()) (fun _=> Sum.inr 1) ?_ ?_
  ·unfold vOa;rw [z1a];rfl
  ·intro i c hc
   have hi:=kca hc
   unfold vOa
   rw [kAa hc,zYa hc]
   simp only [cond_true,Option.bind_some,dec998,sc i (by omega)]
   cases decide (998 < c.length) <;> rfl
 have hfl:=qHb f.Name f.Value
 rw [hl1]
 simp only [Option.bind_some,elim_int,Zna,W1a,R_In_60,hl2,Z7a _ _ hn hv,hl3 _ (show (flP f.Name f.Value).length≤4194304 by omega)]
 have h4:decide ((4000:Int) < (f.Value.length:Int))=decide (4000 < f.Value.length):=by generalize f.Value.length=n;rw [Bool.eq_iff_iff];simp;omega
 have he:(bif decide ((0:Int) < (f.Value.length:Int)) then (idx f.Value 0).bind fun v38=> (wxa v38).bind fun v40=> (bif v40 then some true else (idx f.Value ((w64 ((f.Value.length:Int) - 1)))).bind fun v43=> (wxa v43).bind fun v45=> some v45) else some false)=some (wQb f.Value):=by
  by_cases hn0:f.Value= []
  ·rw [hn0];rfl
  ·obtain ⟨a,b,h1,h2,h3,h4⟩:=qGb f.Value hn0 hv
   have hp:=List.length_pos_iff.2 hn0
   have hd:decide ((0:Int) < (f.Value.length:Int))=true:=by rw [decide_eq_true_eq];omega
   unfold wQb
   rw [h1,h2,h3,h4,hd]
   simp only [Option.bind_some,Jja,cond_true]
   cases yma a <;> rfl
 rw [he,h4]
 simp only [Option.bind_some]
 unfold codeQ fnP valP k9b
 cases f.Name.all fnC <;> cases (f.Name !=([]:Str)) <;> cases decide (f.Name.length≤60) <;> (try rfl)
 simp only [Bool.and_true,Bool.not_true,Bool.false_eq_true,if_false,cond_false]
 by_cases h4000:4000 < f.Value.length
 ·simp [h4000]
 ·simp only [h4000,decide_false,cond_false,if_false]
  cases f.Value.any endC <;> cases wQb f.Value <;> (try rfl)
  simp only [Bool.not_false,Bool.and_true,Bool.not_true,Bool.false_eq_true,if_false,cond_false]
  cases (flP f.Name f.Value).any fun s=> decide (998 < s.length) <;> rfl
def smallF (l:List zga):Prop:=l.length≤1048576∧∀f∈l,f.Name.length≤1048576∧f.Value.length≤1048576
def Z8a (i:Nat) (f:zga):Option zza:=if ZJa f !=0 then some ⟨ZJa f,i⟩ else none
def KQa (l:List zga):zza:=if 60 < l.length then ⟨2, -1⟩ else (zUa Z8a 0 l).getD ⟨0,0⟩
theorem dec60f (l:List zga):decide ((60:Int) < (l.length:Int))=decide (60 < l.length):=by generalize l.length=n;rw [Bool.eq_iff_iff];simp;omega
theorem Q1a (l:List zga) (h:smallF l):vja l=some (KQa l):=by
 obtain ⟨h1,h2⟩:=h
 unfold vja KQa
 rw [zQa l Z8a (.inl ()) .inr]
 ·simp only [Option.bind_some,zPa,z6a,KFa,dec60f]
  by_cases h6:60 < l.length <;> simp [h6]
 ·unfold q3a;rw [z1a];rfl
 ·intro i f hf
  have hi:=kca hf
  obtain ⟨hn,hv⟩:=h2 f (List.mem_of_getElem? hf)
  unfold q3a Z8a
  rw [kAa hf,zYa hf]
  simp only [cond_true,Option.bind_some,V2a _ _ hn hv,kpa,zPa,sc i (by omega)]
  show (bif ZJa f !=0 then _ else _)=_
  cases ZJa f !=0 <;> rfl
theorem KHa (l:List zga) (h:(KQa l).Code=0):¬60 < l.length∧zUa Z8a 0 l=none∧∀f∈l,ZJa f=0:=by
 unfold KQa at h
 by_cases h6:60 < l.length
 ·rw [if_pos h6] at h;simp at h
 ·rw [if_neg h6] at h
  cases hq:zUa Z8a 0 l with
  | some y=>
   rw [hq] at h
   obtain ⟨i,f,h1,h2⟩:=Zma hq
   unfold Z8a at h2
   exfalso
   by_cases hc:ZJa f=0
   ·simp [hc] at h2
   ·have:(ZJa f !=0)=true:=by simpa using hc
    rw [this] at h2
    simp at h2
    subst h2
    exact hc h
  | none=>
   refine ⟨h6,rfl,fun f hf=> ?_⟩
   obtain ⟨i,hi⟩:=List.getElem?_of_mem hf
   have:=v7a.1 hq i f hi
   unfold Z8a at this
   simpa using this
theorem qJb {f:zga} (h:ZJa f=0):f.Name.length≤60∧f.Value.length≤4000∧k8b f.Name f.Value=(flP f.Name f.Value,⟨0,0⟩)∧∀l∈flP f.Name f.Value,l.length≤998:=by
 have h0:=h
 rw [qIb] at h
 unfold codeQ at h
 have h1:fnP f.Name=true:=by cases hx:fnP f.Name with
  | true=> rfl
  | false=> rw [hx] at h;simp at h
 rw [h1] at h
 simp only [Bool.not_true,Bool.false_eq_true,if_false] at h
 have h2:¬4000 < f.Value.length:=by intro hx;rw [if_pos hx] at h;simp at h
 rw [if_neg h2] at h
 have h3:valP f.Value=true:=by cases hx:valP f.Value with
  | true=> rfl
  | false=> rw [hx] at h;simp at h
 rw [h3] at h
 simp only [Bool.not_true,Bool.false_eq_true,if_false] at h
 have h4:k9b (flP f.Name f.Value)=false:=by cases hx:k9b (flP f.Name f.Value) with
  | false=> rfl
  | true=> rw [hx] at h;simp at h
 refine ⟨?_,by omega, ?_, ?_⟩
 ·unfold fnP at h1;simp only [Bool.and_eq_true,decide_eq_true_eq] at h1;exact h1.1.2
 ·unfold k8b
  rw [h1,h3]
  simp only [Bool.not_true,Bool.false_eq_true,if_false,if_neg h2]
  have:=Jla (flP f.Name f.Value) 0
  rw [h4] at this
  cases hx:zUa W4a 0 (flP f.Name f.Value) with
  | none=> rfl
  | some y=> rw [hx] at this;cases this
 ·intro l hl
  unfold k9b at h4
  rw [List.any_eq_false] at h4
  have:=h4 l hl
  simp at this;omega
def addL (a:List UInt8) (l:Str):List UInt8:=a++l++ [13,10]
def addF (a:List UInt8) (f:zga):List UInt8:=(flP f.Name f.Value).foldl addL a
def zsa (m:zxa):List UInt8:=m.Fields.foldl addF []++ [13,10]++m.Body
theorem qKb (l:List Str) (acc:List UInt8) (hl:l.length≤5000) (h9:∀s∈l,s.length≤998) (ha:acc.length≤1000000000) {body:Int × List UInt8→Option (Step (Int × List UInt8) (List UInt8))}
  (h0:∀s,body ((l.length:Int),s)=some (.out s)) (h1:∀(i:Nat) x s,l[i]? =some x→s.length≤1006000000→body ((i:Int),s)=some (.cont (((i+1:Nat):Int),addL s x))):iter body (0,acc)=some (l.foldl addL acc)∧(l.foldl addL acc).length≤acc.length+1000 * l.length:=
 WWa l (fun i s=> (i,s)) addL id (fun i s=> s.length≤acc.length+1000 * i) (body:=body) (fun s _=> h0 s) (fun i x s hx hi=> by
  have hlt:=kca hx
  have h9x:=h9 x (List.mem_of_getElem? hx)
  refine ⟨h1 i x s hx (by omega), ?_⟩
  unfold addL;simp;omega) acc (by simp)
theorem zXb (l:List zga) (hl:l.length≤60) (hc:∀f∈l,ZJa f=0) {body:Int × List UInt8→Option (Step (Int × List UInt8) (List UInt8))}
  (h0:∀s,body ((l.length:Int),s)=some (.out s)) (h1:∀(i:Nat) f s,l[i]? =some f→s.length≤1000000000→body ((i:Int),s)=some (.cont (((i+1:Nat):Int),addF s f))∧(addF s f).length≤s.length+5000000):iter body (0,([]:List UInt8))=some (l.foldl addF [])∧(l.foldl addF []).length≤5000000 * l.length:=
 WWa l (fun i s=> (i,s)) addF id (fun i s=> s.length≤5000000 * i) (body:=body) (fun s _=> h0 s) (fun i f s hf hi=> by
  have hlt:=kca hf
  obtain ⟨q1,q2⟩:=h1 i f s hf (by omega)
  exact ⟨q1,by omega⟩) [] (by simp)
theorem Zxa (m:zxa) (hb:m.Body.length≤1048576) (h60:m.Fields.length≤60) (hc:∀f∈m.Fields,ZJa f=0):vva m=some (zsa m):=by
 unfold vva zsa
 obtain ⟨h1,h2⟩:=zXb m.Fields h60 hc (body:=qUa m) (fun s=> by unfold qUa;rw [z1a];rfl) (fun i f s hf hs=> by
  have hi:=kca hf
  obtain ⟨c1,c2,c3,c4⟩:=qJb (hc f (List.mem_of_getElem? hf))
  have hfl:=qHb f.Name f.Value
  obtain ⟨q1,q2⟩:=qKb (flP f.Name f.Value) s (by omega) c4 hs (body:=qTa (k8b f.Name f.Value)) (fun s=> by unfold qTa;rw [c3,z1a];rfl) (fun k x s hx hs=> by
   have hk:=kca hx
   have:=c4 x (List.mem_of_getElem? hx)
   unfold qTa
   rw [c3,kAa hx,zYa hx]
   simp only [cond_true,Option.bind_some,sc k (by omega)]
   rw [koa (by omega)]
   simp only [Option.bind_some]
   rw [koa (by simp;omega)];rfl)
  unfold addF
  refine ⟨?_,by omega⟩
  unfold qUa
  rw [kAa hf,zYa hf]
  simp only [cond_true,Option.bind_some,V2a f.Name f.Value (by omega) (by omega),q1,sc i (by omega)])
 rw [h1]
 simp only [Option.bind_some]
 rw [koa (by simp;omega)]
 simp only [Option.bind_some]
 rw [koa (by simp;omega)];rfl
theorem vza (m:zxa) (hb:m.Body.length≤1048576) (h60:m.Fields.length≤60) (hc:∀f∈m.Fields,ZJa f=0):k4a m=some (zsa m):=by
 unfold k4a zsa
 obtain ⟨h1,h2⟩:=zXb m.Fields h60 hc (body:=qEa m) (fun s=> by unfold qEa;rw [z1a];rfl) (fun i f s hf hs=> by
  have hi:=kca hf
  obtain ⟨c1,c2,c3,c4⟩:=qJb (hc f (List.mem_of_getElem? hf))
  have hfl:=qHb f.Name f.Value
  obtain ⟨q1,q2⟩:=qKb (flP f.Name f.Value) s (by omega) c4 hs (body:=qDa (flP f.Name f.Value)) (fun s=> by unfold qDa;rw [z1a];rfl) (fun k x s hx hs=> by
   have hk:=kca hx
   have:=c4 x (List.mem_of_getElem? hx)
   unfold qDa
   rw [kAa hx,zYa hx]
   simp only [cond_true,Option.bind_some,sc k (by omega)]
   rw [koa (by omega)]
   simp only [Option.bind_some]
   rw [koa (by simp;omega)];rfl)
  unfold addF
  refine ⟨?_,by omega⟩
  unfold qEa
  rw [kAa hf,zYa hf]
  simp only [cond_true,Option.bind_some,Z7a f.Name f.Value (by omega) (by omega),q1,sc i (by omega)])
 rw [h1]
 simp only [Option.bind_some]
 rw [koa (by simp;omega)]
 simp only [Option.bind_some]
 rw [koa (by simp;omega)];rfl
end Go.Proofs.YtjnmamghadpedaaGreatDoor
namespace Go.Proofs.YtjnmamghadpedaaGreatDoor
open Go.RowKit
set_option maxHeartbeats 1000000
def YKa:Nat→List UInt8→Option Bool
 | _, []=> none
 | c, [x]=> if x==13 || x==10 then some true else if 998 < c+1 then some false else none
 | c,x::y::r=> if x==13 && y==10 then YKa 0 r else if x==13 || x==10 then some true else if 998 < c+1 then some false else YKa (c+1) (y::r)
def Q2a {O:Type} (e:Bool→O) (c i:Nat) (x:UInt8) (r:List UInt8):Step (Int × Int) (Unit ⊕ O):=
 if x==13 && r.head? ==some 10 then .cont (0,((i+2:Nat):Int)) else if x==13 || x==10 then .out (.inr (e true)) else if 998 < c+1 then .out (.inr (e false)) else .cont (((c+1:Nat):Int),((i+1:Nat):Int))
theorem zYb {O:Type} (e:Bool→O) (l:List UInt8) {body:Int × Int→Option (Step (Int × Int) (Unit ⊕ O))}
  (h0:∀c,body (c,(l.length:Int))=some (.out (.inl ())))
  (hs:∀(c:Nat) (p:List UInt8) x r,l=p++x::r→c≤998→body ((c:Int),(p.length:Int))=some (Q2a e c p.length x r)):
  ∀(n:Nat) (r p:List UInt8) (c:Nat),r.length≤n→l=p++r→c≤998→iter body ((c:Int),(p.length:Int))=some ((YKa c r).elim (.inl ()) fun b=> .inr (e b)):=by
 intro n
 induction n with
 | zero=>
  intro r p c hr hl hc
  obtain rfl:r= []:=List.length_eq_zero_iff.1 (by omega)
  have:p=l:=by simp [hl]
  subst this
  exact zHa (h0 _)
 | succ n ih=>
  intro r p c hr hl hc
  match r,hr,hl with
  | [],_,hl=>
   have:p=l:=by simp [hl]
   subst this
   exact zHa (h0 _)
  | [x],hr,hl=>
   have hb:=hs c p x [] hl hc
   unfold Q2a at hb
   have e1:(x==13 && ([]:List UInt8).head? ==some 10)=false:=by simp
   rw [e1] at hb
   simp only [Bool.false_eq_true,if_false] at hb
   unfold YKa
   cases hx:(x==13 || x==10) with
   | true=> rw [hx] at hb;exact zHa hb
   | false=>
    rw [hx] at hb
    simp only [Bool.false_eq_true,if_false] at hb ⊢
    by_cases h9:998 < c+1
    ·rw [if_pos h9] at hb ⊢;exact zHa hb
    ·rw [if_neg h9] at hb ⊢
     rw [zOa hb]
     have:=ih [] (p++ [x]) (c+1) (by simp) (by simp [hl]) (by omega)
     rw [List.length_append] at this
     exact this
  | x::y::r,hr,hl=>
   have hb:=hs c p x (y::r) hl hc
   unfold Q2a at hb
   have e1:((y::r).head? ==some (10:UInt8))=(y==10):=by simp
   rw [e1] at hb
   unfold YKa
   cases hxy:(x==13 && y==10) with
   | true=>
    rw [hxy] at hb
    simp only [if_true] at hb ⊢
    rw [zOa hb]
    have:=ih r (p++ [x,y]) 0 (by simp at hr;omega) (by simp [hl]) (by omega)
    rw [List.length_append] at this
    exact this
   | false=>
    rw [hxy] at hb
    simp only [Bool.false_eq_true,if_false] at hb ⊢
    cases hx:(x==13 || x==10) with
    | true=> rw [hx] at hb;exact zHa hb
    | false=>
     rw [hx] at hb
     simp only [Bool.false_eq_true,if_false] at hb ⊢
     by_cases h9:998 < c+1
     ·rw [if_pos h9] at hb ⊢;exact zHa hb
     ·rw [if_neg h9] at hb ⊢
      rw [zOa hb]
      have:=ih (y::r) (p++ [x]) (c+1) (by simp at hr ⊢;omega) (by simp [hl]) (by omega)
      rw [List.length_append] at this
      exact this
theorem wVb {l p r:List UInt8} {x:UInt8} (h:l=p++x::r) (hl:l.length≤1048576):(bif decide (((p.length+1:Nat):Int) < (l.length:Int)) then (idx l ((p.length+1:Nat):Int)).bind fun v13=> some (((v13.toNat:Int)==10)) else some false)=some (r.head? ==some 10):=by
 subst h
 simp at hl
 cases r with
 | nil=>
  have:decide (((p.length+1:Nat):Int) < ((p++ [x]).length:Int))=false:=by simp
  rw [this];rfl
 | cons y r=>
  have:decide (((p.length+1:Nat):Int) < ((p++x::y::r).length:Int))=true:=by simp;omega
  rw [this,yga]
  have:(p++x::y::r)[p.length+1]? =some y:=by simp [List.getElem?_append_right]
  rw [this]
  simp only [cond_true,Option.bind_some,v6a y 10 (by decide)]
  simp
theorem J7a (l:List UInt8) (hl:l.length≤1048576):jTa l=some ((YKa 0 l).elim 0 fun b=> bif b then 11 else 1):=by
 unfold jTa
 have:=zYb (fun b:Bool=> bif b then (11:Int) else 1) l (body:=vwa l) (fun c=> by unfold vwa;rw [z1a];rfl) (fun c p x r h hc=> by
  have hx:l[p.length]? =some x:=by simp [h]
  have hi:=kca hx
  unfold vwa wwa Q2a
  dsimp only
  rw [kAa hx,zYa hx]
  simp only [cond_true,Option.bind_some,v6a x 13 (by decide),v6a x 10 (by decide),sc p.length (by omega),sc (p.length+1) (by omega),sc c (by omega)]
  rw [wVb h hl]
  have h9:decide ((998:Int) < ((c+1:Nat):Int))=decide (998 < c+1):=by rw [Bool.eq_iff_iff];simp;omega
  rw [h9]
  by_cases h98:998 < c+1 <;> simp only [h98,decide_true,decide_false,if_true,if_false] <;> cases x==13 <;> cases x==10 <;> cases r.head? ==some 10 <;> rfl) l.length l [] 0 (Nat.le_refl _) rfl (by omega)
 have h2:iter (vwa l) (0,0)=_:=this
 rw [h2]
 cases YKa 0 l with
 | none=> rfl
 | some b=> cases b <;> rfl
def bodyF (l:List UInt8):zza:=(YKa 0 l).elim ⟨0,0⟩ fun b=> bif b then ⟨11, -5⟩ else ⟨1, -6⟩
theorem W5a (l:List UInt8) (hl:l.length≤1048576):w3a l=some (bodyF l):=by
 unfold w3a bodyF
 rw [J7a l hl]
 cases YKa 0 l with
 | none=> rfl
 | some b=> cases b <;> rfl
def msgF (m:zxa):zza:=if (KQa m.Fields).Code !=0 then KQa m.Fields else if 12000 < (zsa m).length then ⟨1, -4⟩ else bodyF m.Body
def jYa (m:zxa):Prop:=smallF m.Fields∧m.Body.length≤1048576
theorem y5a (m:zxa) (h:jYa m):qfa m=some (msgF m):=by
 obtain ⟨h1,h2⟩:=h
 unfold qfa msgF
 rw [Q1a _ h1]
 simp only [Option.bind_some,kpa,zPa,W5a _ h2]
 cases hc:(KQa m.Fields).Code !=0 with
 | true=> rfl
 | false=>
  obtain ⟨q1,q2,q3⟩:=KHa m.Fields (by simpa using hc)
  rw [Zxa m h2 (by omega) q3]
  simp only [Option.bind_some,cond_false,Bool.false_eq_true,if_false]
  have:decide ((12000:Int) < ((zsa m).length:Int))=decide (12000 < (zsa m).length):=by generalize (zsa m).length=n;rw [Bool.eq_iff_iff];simp;omega
  rw [this]
  by_cases hb:12000 < (zsa m).length <;> simp [hb]
theorem VDa (m:zxa) (h:jYa m):qWa m=some (msgF m):=by
 obtain ⟨⟨h1,h3⟩,h2⟩:=h
 unfold qWa msgF
 rw [zQa m.Fields Z8a (.inl ()) .inr]
 ·have hbl:iter (k7a m) (0,0)=_:=zYb (fun b:Bool=> bif b then (⟨11, -5⟩:zza) else ⟨1, -6⟩) m.Body (body:=k7a m) (fun c=> by unfold k7a;rw [z1a];rfl) (fun c p x r h hc=> by
   have hx:m.Body[p.length]? =some x:=by simp [h]
   have hi:=kca hx
   unfold k7a qFa Q2a
   dsimp only
   rw [kAa hx,zYa hx]
   simp only [cond_true,Option.bind_some,v6a x 13 (by decide),v6a x 10 (by decide),sc p.length (by omega),sc (p.length+1) (by omega),sc c (by omega),jCa]
   rw [wVb h h2]
   have h9:decide ((998:Int) < ((c+1:Nat):Int))=decide (998 < c+1):=by rw [Bool.eq_iff_iff];simp;omega
   rw [h9]
   by_cases h98:998 < c+1 <;> simp only [h98,decide_true,decide_false,if_true,if_false] <;> cases x==13 <;> cases x==10 <;> cases r.head? ==some 10 <;> rfl) m.Body.length m.Body [] 0 (Nat.le_refl _) rfl (by omega)
  rw [hbl,dec60f]
  simp only [Option.bind_some,jCa]
  by_cases h6:60 < m.Fields.length
  ·have:KQa m.Fields=⟨2, -1⟩:=by unfold KQa;rw [if_pos h6]
   rw [this];simp [h6]
  ·simp only [h6,decide_false,cond_false]
   have hh:KQa m.Fields=(zUa Z8a 0 m.Fields).getD ⟨0,0⟩:=by unfold KQa;rw [if_neg h6]
   cases hq:zUa Z8a 0 m.Fields with
   | some y=>
    rw [hq] at hh
    have hc:((KQa m.Fields).Code !=0)=true:=by
     cases hc:(KQa m.Fields).Code !=0 with
     | true=> rfl
     | false=>
      obtain ⟨_,q2,_⟩:=KHa m.Fields (by simpa using hc)
      rw [hq] at q2;cases q2
    rw [hc,hh];rfl
   | none=>
    rw [hq] at hh
    have hz:KQa m.Fields=⟨0,0⟩:=hh
    obtain ⟨q1,q2,q3⟩:=KHa m.Fields (by rw [hz])
    rw [vza m h2 (by omega) q3,hz]
    simp only [Option.bind_some,Option.elim_none,Sum.elim_inl]
    have hbb:m.Body.length≤(zsa m).length:=by unfold zsa;simp;omega
    have e2:(bif decide ((12000:Int) < (m.Body.length:Int)) then some true else some (decide ((12000:Int) < ((zsa m).length:Int))))=some (decide (12000 < (zsa m).length)):=by
     generalize (zsa m).length=n at *
     by_cases hx:12000 < m.Body.length
     ·have e3:decide ((12000:Int) < (m.Body.length:Int))=true:=by rw [decide_eq_true_eq];omega
      have e4:decide (12000 < n)=true:=by rw [decide_eq_true_eq];omega
      rw [e3,e4];rfl
     ·have e3:decide ((12000:Int) < (m.Body.length:Int))=false:=by rw [decide_eq_false_iff_not];omega
      rw [e3]
      simp only [cond_false,Option.some.injEq]
      rw [Bool.eq_iff_iff];simp;omega
    rw [e2]
    simp only [Option.bind_some]
    unfold bodyF
    by_cases hb:12000 < (zsa m).length
    ·simp [hb]
    ·simp only [hb,decide_false,cond_false,if_false]
     cases YKa 0 m.Body <;> rfl
 ·unfold vxa;rw [z1a];rfl
 ·intro i f hf
  have hi:=kca hf
  obtain ⟨hn,hv⟩:=h3 f (List.mem_of_getElem? hf)
  unfold vxa Z8a
  rw [kAa hf,zYa hf]
  simp only [cond_true,Option.bind_some,YJa _ hn hv,jCa,sc i (by omega)]
  cases ZJa f !=0 <;> rfl
end Go.Proofs.YtjnmamghadpedaaGreatDoor
namespace Go.Proofs.YtjnmamghadpedaaGreatDoor
open Go.RowKit
set_option maxHeartbeats 1000000
instance:DecidableEq zca:=fun a b=> decidable_of_iff (a.Address=b.Address∧a.Notify=b.Notify) (by cases a;cases b;simp)
instance:DecidableEq zza:=fun a b=> decidable_of_iff (a.Code=b.Code∧a.Index=b.Index) (by cases a;cases b;simp)
instance:DecidableEq zKa:=fun a b=> decidable_of_iff (a.From=b.From∧a.To=b.To∧a.Id=b.Id) (by cases a;cases b;simp)
end Go.Proofs.YtjnmamghadpedaaGreatDoor
namespace Go.Proofs.YtjnmamghadpedaaGreatDoor
open Go.RowKit
set_option maxHeartbeats 1000000
def W6a (s:Str) (r:zca):Bool:=r.Address==s
def hasA (out:List zca) (s:Str):Bool:=out.any (W6a s)
def putR (out:List zca) (r:zca):List zca:=if hasA out r.Address then out.map (fun x=> if W6a r.Address x then ⟨x.Address,iOr x.Notify r.Notify⟩ else x) else out++ [r]
end Go.Proofs.YtjnmamghadpedaaGreatDoor
namespace Go.Proofs.YtjnmamghadpedaaGreatDoor
open Go.RowKit
set_option maxHeartbeats 1000000
def posA (out:List zca) (s:Str):Option Nat:=out.findIdx? (W6a s)
theorem posA_has (out:List zca) (s:Str):(posA out s).isSome=hasA out s:=by unfold posA hasA;exact List.findIdx?_isSome
theorem posA_app (out:List zca) (r:zca) (s:Str) (h:hasA out r.Address=false):posA (out++ [r]) s=if r.Address==s then some out.length else posA out s:=by
 unfold posA
 rw [List.findIdx?_append]
 by_cases hs:(r.Address==s)=true
 ·rw [if_pos hs]
  have e:r.Address=s:=beq_iff_eq.1 hs
  subst e
  have:out.findIdx? (W6a r.Address)=none:=by
   have:=posA_has out r.Address
   rw [h] at this
   unfold posA at this
   simpa using this
  rw [this]
  simp [W6a]
 ·rw [if_neg hs]
  have:W6a s r=false:=by unfold W6a;simpa using hs
  simp [List.findIdx?_cons,this]
theorem posA_map (out:List zca) (f:zca→zca) (hf:∀x,(f x).Address=x.Address) (s:Str):posA (out.map f) s=posA out s:=by
 unfold posA
 rw [List.findIdx?_map]
 congr 1
 funext x
 simp [Function.comp,W6a,hf]
structure MInv (i:Nat) (out:List zca) (m:List (Str × Int)):Prop where
 len:out.length≤i
 nd:(out.map (·.Address)).Nodup
 mp:∀s,mget m s=(posA out s).map fun k=> ((k:Nat):Int)
theorem MInv.put {i:Nat} {out:List zca} {m:List (Str × Int)} (h:MInv i out m) (r:zca):MInv (i+1) (putR out r) (if hasA out r.Address then m else mput m r.Address (out.length:Int)):=by
 unfold putR
 cases hh:hasA out r.Address with
 | true=>
  simp only [if_true]
  have hf:∀x:zca,(if W6a r.Address x then (⟨x.Address,iOr x.Notify r.Notify⟩:zca) else x).Address=x.Address:=by intro x;split <;> rfl
  refine ⟨by simp;have:=h.len;omega, ?_,fun s=> ?_⟩
  ·rw [List.map_map,show ((·.Address) ∘ fun x:zca=> if W6a r.Address x then (⟨x.Address,iOr x.Notify r.Notify⟩:zca) else x)=(·.Address) from funext hf];exact h.nd
  ·rw [posA_map _ _ hf];exact h.mp s
 | false=>
  simp only [Bool.false_eq_true,if_false]
  refine ⟨by simp;exact h.len, ?_,fun s=> ?_⟩
  ·rw [List.map_append,List.nodup_append]
   refine ⟨h.nd,by simp, ?_⟩
   intro a ha b hb
   simp at hb;subst hb
   rintro rfl
   obtain ⟨x,hx,hxe⟩:=List.mem_map.1 ha
   unfold hasA at hh
   rw [List.any_eq_false] at hh
   exact hh x hx (by simp [W6a,hxe])
  ·rw [vqb,posA_app _ _ _ hh,h.mp s]
   by_cases hs:(r.Address==s)=true
   ·rw [if_pos hs,if_pos hs];rfl
   ·rw [if_neg hs,if_neg hs]
end Go.Proofs.YtjnmamghadpedaaGreatDoor
namespace Go.Proofs.YtjnmamghadpedaaGreatDoor
open Go.RowKit
theorem recF_ok (l:List zca) (h:(recF l).Code=0):recF l=⟨0,0⟩:=by
 unfold recF at h ⊢
 cases hf:zUa (recQ l) 0 l with
 | none=> rfl
 | some f=>
  exfalso
  obtain ⟨i,x,hx,hq⟩:=Zma hf
  rw [hf] at h
  unfold recQ at hq
  split at hq
  ·cases hq;simp at h
  ·split at hq
   ·cases hq;simp at h
   ·split at hq
    ·cases hq;simp at h
    ·cases hq
theorem envF_ok (e:zKa) (h:(envF e).Code=0):envF e=⟨0,0⟩:=by
 unfold envF at h ⊢
 split
 ·rename_i h1;rw [if_pos h1] at h;simp at h
 ·rename_i h1
  rw [if_neg h1] at h
  split
  ·rename_i h2;rw [if_pos h2] at h;simp at h
  ·rename_i h2
   rw [if_neg h2] at h
   split
   ·rename_i h3;rw [if_pos h3] at h;simp at h
   ·rename_i h3
    rw [if_neg h3] at h
    exact recF_ok _ h
end Go.Proofs.YtjnmamghadpedaaGreatDoor
namespace Go.Proofs.YtjnmamghadpedaaGreatDoor
open Go.RowKit
set_option maxHeartbeats 1000000
theorem wWb {m:zxa} (h:zxa.bk m≤1048576):jYa m:=by
 unfold zxa.bk at h
 have h1:=VAa (bk:=zga.bk) (fun x=> by unfold zga.bk;omega) m.Fields
 have h2:=VAa (bk:=fun _:UInt8=> 1) (fun x=> by simp) m.Body
 refine ⟨⟨by omega,fun f hf=> ?_⟩,by omega⟩
 have h5:=wIb (bk:=zga.bk) hf
 have h6:zga.bk f=f.Name.length+1+(f.Value.length+1)+1:=rfl
 omega
def jZa (m:kea):zza:=if (envF m.Envelope).Code !=0 then envF m.Envelope else if (msgF m.Message).Code !=0 then ⟨(msgF m.Message).Code, -30⟩ else ⟨0,0⟩
theorem VEa (m:kea) (h1:Z6a m.Envelope) (h2:jYa m.Message):vLa m=some (jZa m):=by
 unfold vLa jZa
 rw [KPa _ h1,y5a _ h2]
 simp only [Option.bind_some,kpa,zPa,z6a]
 cases (envF m.Envelope).Code !=0 <;> cases (msgF m.Message).Code !=0 <;> rfl
theorem YLa (m:kea) (h1:Z6a m.Envelope) (h2:jYa m.Message):yNa m=some (jZa m):=by
 unfold yNa jZa
 rw [QZa _ h1,VDa _ h2]
 simp only [Option.bind_some,jCa]
 by_cases hc:(envF m.Envelope).Code=0
 ·have hz:=envF_ok _ hc
  rw [hz]
  cases h:(msgF m.Message).Code !=0 <;> simp [h]
 ·have e1:((envF m.Envelope).Code !=0)=true:=by simpa using hc
  have e2:((envF m.Envelope).Code==0)=false:=by simpa using hc
  rw [e1,e2]
  simp only [cond_false,Option.bind_some,if_true]
end Go.Proofs.YtjnmamghadpedaaGreatDoor
namespace Go.Proofs.YtjnmamghadpedaaGreatDoor
open Go.RowKit
set_option maxHeartbeats 1000000
end Go.Proofs.YtjnmamghadpedaaGreatDoor
namespace Go.Proofs.YtjnmamghadpedaaGreatDoor
open Go.RowKit
set_option maxHeartbeats 1000000
theorem W7a {m:kea} (h:(jZa m).Code=0):(envF m.Envelope).Code=0∧(msgF m.Message).Code=0:=by
 unfold jZa at h
 by_cases h1:(envF m.Envelope).Code=0
 ·refine ⟨h1, ?_⟩
  have e:((envF m.Envelope).Code !=0)=false:=by simp [h1]
  rw [e] at h
  simp only [Bool.false_eq_true,if_false] at h
  cases hc:(msgF m.Message).Code !=0 with
  | false=> simpa using hc
  | true=> rw [hc] at h;simpa using h
 ·have e:((envF m.Envelope).Code !=0)=true:=by simpa using h1
  rw [e] at h
  simp only [if_true] at h
  exact absurd h h1
theorem zZb {m:zxa} (h:(msgF m).Code=0):(KQa m.Fields).Code=0:=by
 unfold msgF at h
 cases hc:(KQa m.Fields).Code !=0 with
 | false=> simpa using hc
 | true=> rw [hc] at h;simpa using h
end Go.Proofs.YtjnmamghadpedaaGreatDoor
namespace Go.Proofs.YtjnmamghadpedaaGreatDoor
open Go.RowKit
set_option maxHeartbeats 1000000
instance:DecidableEq zga:=fun a b=> decidable_of_iff (a.Name=b.Name∧a.Value=b.Value) (by cases a;cases b;simp)
instance:DecidableEq zxa:=fun a b=> decidable_of_iff (a.Fields=b.Fields∧a.Body=b.Body) (by cases a;cases b;simp)
instance:DecidableEq kea:=fun a b=> decidable_of_iff (a.Envelope=b.Envelope∧a.Message=b.Message) (by cases a;cases b;simp)
end Go.Proofs.YtjnmamghadpedaaGreatDoor
namespace Go.Proofs.YtjnmamghadpedaaGreatDoor
open Go.RowKit
set_option maxHeartbeats 1000000
theorem Q3a (m:zxa) (hf:m.Fields.length≤1048576):wya m m=some true:=by
 unfold wya
 have e1:((m.Fields.length:Int) !=(m.Fields.length:Int))=false:=by simp
 have e2:(m.Body !=m.Body)=false:=by simp
 rw [e1,e2]
 simp only [cond_false,Option.bind_some]
 rw [zQa m.Fields (fun _ _=> none) (.inl ()) .inr]
 ·have:zUa (fun _ _=> (none:Option Bool)) 0 m.Fields=none:=by rw [v7a];intro i x _;rfl
  simp only [Option.bind_some]
  rw [this];rfl
 ·unfold vXa;rw [z1a];rfl
 ·intro i f hx
  have hi:=kca hx
  unfold vXa
  rw [kAa hx,zYa hx]
  simp only [cond_true,Option.bind_some,sc i (by omega)]
  simp [q7a]
theorem W8a (m:kea) (h1:m.Envelope.To.length≤1048576) (h2:m.Message.Fields.length≤1048576):jUa m m=some true:=by
 unfold jUa
 have e1:(m.Envelope.From !=m.Envelope.From)=false:=by simp
 have e2:(m.Envelope.Id !=m.Envelope.Id)=false:=by simp
 have e3:((m.Envelope.To.length:Int) !=(m.Envelope.To.length:Int))=false:=by simp
 rw [e1,e2,e3]
 simp only [cond_false,Option.bind_some]
 rw [zQa m.Envelope.To (fun _ _=> none) (.inl ()) .inr]
 ·have:zUa (fun _ _=> (none:Option Bool)) 0 m.Envelope.To=none:=by rw [v7a];intro i x _;rfl
  simp only [Option.bind_some]
  rw [this]
  simp only [Option.elim_none,Sum.elim_inl]
  rw [Q3a _ h2];rfl
 ·unfold yqa;rw [z1a];rfl
 ·intro i f hx
  have hi:=kca hx
  unfold yqa
  rw [kAa hx,zYa hx]
  simp only [cond_true,Option.bind_some,sc i (by omega)]
  simp [q7a]
end Go.Proofs.YtjnmamghadpedaaGreatDoor
namespace Go.Proofs.YtjnmamghadpedaaGreatDoor
open Go.RowKit
set_option maxHeartbeats 1000000
end Go.Proofs.YtjnmamghadpedaaGreatDoor
namespace Go.Proofs.YtjnmamghadpedaaGreatDoor
open Go.RowKit
set_option maxHeartbeats 1000000
end Go.Proofs.YtjnmamghadpedaaGreatDoor
namespace Go.Proofs.YtjnmamghadpedaaGreatDoor
open Go.RowKit
set_option maxHeartbeats 2000000
theorem and_some (a b:Bool):(bif a then some b else some false:Option Bool)=some (a && b):=by cases a <;> rfl
theorem or_some (a b:Bool):(bif a then some true else some b:Option Bool)=some (a || b):=by cases a <;> rfl
def W9a (c:zta):Bool:=(c.Verb==1 || c.Name==([]:Str)) && (c.Verb==2 || c.Verb==3 || c.Address==([]:Str)) && (c.Verb==2 || c.Verb==5 || c.Size==0) && (c.Verb==3 || c.Notify==0) && (c.Verb==5 || c.Last==false)
def cmdF (c:zta):zza:=
 bif decide (c.Verb < 1) || decide (8 < c.Verb) then ⟨4, -2⟩ else bif !W9a c then ⟨5, -3⟩ else bif c.Verb==1 && !jDa c.Name then ⟨10, -4⟩ else
 bif (c.Verb==3 || (c.Verb==2 && c.Address !=([]:Str))) && !wDa c.Address then ⟨10, -5⟩ else bif decide (c.Size < 0) || decide (1000000 < c.Size) then ⟨3, -6⟩ else
 bif !ZHa c.Notify then ⟨3, -7⟩ else ⟨0,0⟩
theorem five (v:Int):v=1∨v=2∨v=3∨v=5∨((v==1)=false∧(v==2)=false∧(v==3)=false∧(v==5)=false):=by
 simp only [beq_eq_false_iff_ne]
 omega
theorem used_eq (c:zta):∃u,w6a c=some u∧q7a [(c.Verb==u.Verb),(c.Name==u.Name),(c.Address==u.Address),(c.Size==u.Size),(c.Notify==u.Notify),(c.Last==u.Last)]=W9a c:=by
 obtain ⟨v,n,a,s,o,l⟩:=c
 rcases five v with rfl | rfl | rfl | rfl | ⟨h1,h2,h3,h5⟩
 ·exact ⟨⟨1,n, [],0,0,false⟩,rfl,by simp [q7a,W9a,Bool.and_assoc]⟩
 ·exact ⟨⟨2, [],a,s,0,false⟩,rfl,by simp [q7a,W9a,Bool.and_assoc]⟩
 ·exact ⟨⟨3, [],a,0,o,false⟩,rfl,by simp [q7a,W9a,Bool.and_assoc]⟩
 ·exact ⟨⟨5, [], [],s,0,l⟩,rfl,by simp [q7a,W9a,Bool.and_assoc]⟩
 ·refine ⟨⟨v, [], [],0,0,false⟩, ?_, ?_⟩
  ·unfold w6a
   dsimp only
   rw [h1,h2,h3,h5];rfl
  ·unfold W9a
   dsimp only
   rw [h1,h2,h3,h5]
   simp [q7a,Bool.and_assoc]
def qab (c:zta):Prop:=c.Name.length≤1048576∧c.Address.length≤1048576
theorem Qna (c:zta) (h:qab c):qVa c=some (cmdF c):=by
 obtain ⟨u,hu,he⟩:=used_eq c
 unfold qVa cmdF
 rw [hu]
 simp only [Option.bind_some,he,Zoa _ h.1,v9a _ (show c.Address.length < 4294967281 by have:=h.2;omega),jxa,zPa,z6a,and_some,or_some]
 cases decide (c.Verb < 1) || decide (8 < c.Verb) with
 | true=> rfl
 | false=>
  cases W9a c with
  | false=> rfl
  | true=>
   cases c.Verb==1 && !jDa c.Name with
   | true=> rfl
   | false=>
    cases (c.Verb==3 || (c.Verb==2 && c.Address !=([]:Str))) && !wDa c.Address with
    | true=> rfl
    | false=>
     cases decide (c.Size < 0) || decide (1000000 < c.Size) with
     | true=> rfl
     | false=> cases ZHa c.Notify <;> rfl
structure Qoa (c:zta):Prop where
 verb:1≤c.Verb∧c.Verb≤8
 used:W9a c=true
 name:c.Verb=1→jDa c.Name=true
 addr:c.Verb=3∨(c.Verb=2∧c.Address≠ [])→wDa c.Address=true
 size:0≤c.Size∧c.Size≤1000000
 note:0≤c.Notify∧c.Notify≤7
theorem cmdF_ok {c:zta} (h:(cmdF c).Code=0):Qoa c∧cmdF c=⟨0,0⟩:=by
 unfold cmdF at h ⊢
 cases h1:decide (c.Verb < 1) || decide (8 < c.Verb) with
 | true=> rw [h1] at h;exact absurd h (show (4:Int)≠0 by decide)
 | false=>
  rw [h1] at h
  cases h2:W9a c with
  | false=> rw [h2] at h;exact absurd h (show (5:Int)≠0 by decide)
  | true=>
   rw [h2] at h
   cases h3:c.Verb==1 && !jDa c.Name with
   | true=> rw [h3] at h;exact absurd h (show (10:Int)≠0 by decide)
   | false=>
    rw [h3] at h
    cases h4:(c.Verb==3 || (c.Verb==2 && c.Address !=([]:Str))) && !wDa c.Address with
    | true=> rw [h4] at h;exact absurd h (show (10:Int)≠0 by decide)
    | false=>
     rw [h4] at h
     cases h5:decide (c.Size < 0) || decide (1000000 < c.Size) with
     | true=> rw [h5] at h;exact absurd h (show (3:Int)≠0 by decide)
     | false=>
      rw [h5] at h
      cases h6:ZHa c.Notify with
      | false=> rw [h6] at h;exact absurd h (show (3:Int)≠0 by decide)
      | true=>
       simp only [Bool.or_eq_false_iff,decide_eq_false_iff_not] at h1 h5
       unfold ZHa at h6
       simp only [Bool.and_eq_true,decide_eq_true_eq] at h6
       refine ⟨⟨by omega,h2,fun hv=> ?_,fun hv=> ?_,by omega,h6⟩,rfl⟩
       ·rw [hv] at h3
        simpa using h3
       ·cases ha:wDa c.Address with
        | true=> rfl
        | false=>
         rw [ha] at h4
         rcases hv with hv | ⟨hv,hn⟩
         ·rw [hv] at h4;simp at h4
         ·rw [hv] at h4
          simp at h4
          exact absurd h4 hn
def wordL:List Str:= [[104,101,108,108,111], [109,97,105,108], [114,99,112,116], [100,97,116,97], [99,104,117,110,107], [114,101,115,101,116], [110,111,111,112], [113,117,105,116]]
def condL:List Str:= [[110,101,118,101,114], [102,97,105,108,117,114,101], [100,101,108,97,121], [102,97,105,108,117,114,101,44,100,101,108,97,121], [115,117,99,99,101,115,115], [102,97,105,108,117,114,101,44,115,117,99,99,101,115,115], [100,101,108,97,121,44,115,117,99,99,101,115,115], [102,97,105,108,117,114,101,44,100,101,108,97,121,44,115,117,99,99,101,115,115]]
def z0b (v:Int):Str:=wordL.getD (v - 1).toNat []
def wXb (n:Int):Str:=condL.getD n.toNat []
def argT (c:zta):List Str:=
 if c.Verb=1 then [c.Name] else if c.Verb=2 then ([60]++c.Address++ [62])::(if c.Size=0 then [] else [[115,105,122,101,61]++Lib.decDigits c.Size.toNat]) else
 if c.Verb=3 then ([60]++c.Address++ [62])::(if c.Notify=1 then [] else [[110,111,116,105,102,121,61]++wXb c.Notify]) else
 if c.Verb=5 then Lib.decDigits c.Size.toNat::(if c.Last then [[108,97,115,116]] else []) else []
def ZKa (w:Str) (l:List Str):Str:=w++(l.map fun s=> (32:UInt8)::s).flatten
def cmdT (c:zta):Str:=ZKa (z0b c.Verb) (argT c)
def condsV:zna × zna × zna:=((zna.mk 1 (([102,97,105,108,117,114,101]:Str))),(zna.mk 2 (([100,101,108,97,121]:Str))),(zna.mk 4 (([115,117,99,99,101,115,115]:Str))))
instance:DecidableEq (Step (Int × List Str) (List Str)):=fun a b=> match a,b with
 | .cont x, .cont y=> decidable_of_iff (x=y) (by simp)
 | .out x, .out y=> decidable_of_iff (x=y) (by simp)
 | .cont x, .out y=> isFalse (by simp)
 | .out x, .cont y=> isFalse (by simp)
def vyb (n:Nat):List Str:=(if n % 2=1 then [[102,97,105,108,117,114,101]] else [])++(if n / 2 % 2=1 then [[100,101,108,97,121]] else [])++(if n / 4 % 2=1 then [[115,117,99,99,101,115,115]] else [])
theorem wYb:∀n:Fin 8,KLa (wOa (n.val:Int) condsV) 4 (0, [])=some (vyb n.val):=by decide+kernel
theorem z1b:∀n:Fin 8,(if vyb n.val= [] then ([110,101,118,101,114]:Str) else Lib.join (vyb n.val) [44])=condL.getD n.val []∧(vyb n.val).length≤3∧(condL.getD n.val []).length≤100:=by decide+kernel
theorem VFa {n:Int} (h:0≤n∧n≤7):vQa n=some (wXb n):=by
 have h1:=wYb ⟨n.toNat,by omega⟩
 obtain ⟨h2,h3,h4⟩:=z1b ⟨n.toNat,by omega⟩
 dsimp only at h1 h2 h3 h4
 rw [show ((n.toNat:Nat):Int)=n by omega] at h1
 unfold vQa
 have hc:q4a=some condsV:=rfl
 rw [hc]
 simp only [Option.bind_some]
 rw [Qxa.2 ⟨4,h1⟩]
 simp only [Option.bind_some]
 unfold wXb
 by_cases he:vyb n.toNat= []
 ·rw [if_pos he] at h2
  rw [he,←h2]
  rfl
 ·rw [if_neg he] at h2
  have e:(((vyb n.toNat).length:Int)==0)=false:=by
   rw [beq_eq_false_iff_ne]
   have:=List.length_pos_iff.2 he
   omega
  rw [e]
  simp only [cond_false]
  unfold vma
  rw [if_pos ⟨by omega,by rw [h2];omega⟩,h2]
  rfl
theorem Yaa {n:Int} (h:0≤n∧n≤7):(wXb n).length≤100:=(z1b ⟨n.toNat,by omega⟩).2.2
theorem wZb:∀k:Fin 8,wordL[k.val]? =some (z0b ((k.val:Int)+1))∧(z0b ((k.val:Int)+1)).length≤5:=by decide
theorem Wwa {v:Int} (h:1≤v∧v≤8):idx wordL (w64 (v - 1))=some (z0b v)∧(z0b v).length≤5:=by
 have:=wZb ⟨(v - 1).toNat,by omega⟩
 dsimp only at this
 rw [show (((v - 1).toNat:Nat):Int)+1=v by omega] at this
 rw [z0a (by omega) (by omega),show v - 1=(((v - 1).toNat:Nat):Int) by omega,yga]
 exact this
theorem Wfa:yra=some (([104,101,108,108,111]:Str),([109,97,105,108]:Str),([114,99,112,116]:Str),([100,97,116,97]:Str),([99,104,117,110,107]:Str),([114,101,115,101,116]:Str),([110,111,111,112]:Str),([113,117,105,116]:Str)):=rfl
theorem addr_len {a:Str} (h:wDa a=true):a.length≤121:=by
 unfold wDa at h
 simp only [Bool.and_eq_true,decide_eq_true_eq] at h
 obtain ⟨⟨⟨⟨h1,h2⟩,h3⟩,h4⟩,h5⟩:=h
 unfold domP at h5
 simp only [Bool.and_eq_true,decide_eq_true_eq,List.length_drop] at h5
 omega
theorem Q4a {c:zta} (ok:Qoa c):c.Address.length≤121:=by
 by_cases h:c.Address= []
 ·rw [h];simp
 ·refine addr_len (ok.addr ?_)
  have hu:=ok.used
  unfold W9a at hu
  simp only [Bool.and_eq_true,Bool.or_eq_true,beq_iff_eq] at hu
  rcases hu.1.1.1.2 with (h2 | h2) | h2
  ·exact .inr ⟨h2,h⟩
  ·exact .inl h2
  ·exact absurd h2 h
theorem Wga (c:zta) (h:qab c):wAa c=some (bif (cmdF c).Code !=0 then ([],cmdF c) else (cmdT c,⟨0,0⟩)):=by
 unfold wAa
 rw [Qna c h,Wfa]
 simp only [Option.bind_some,kpa,z6a]
 cases hc:(cmdF c).Code !=0 with
 | true=> rfl
 | false=>
  obtain ⟨ok,_⟩:=cmdF_ok (c:=c) (by simpa using hc)
  obtain ⟨hw,hwl⟩:=Wwa ok.verb
  have hal:=Q4a ok
  have hs:=ok.size
  simp only [cond_false]
  rw [show ([([104,101,108,108,111]:Str),([109,97,105,108]:Str),([114,99,112,116]:Str),([100,97,116,97]:Str),([99,104,117,110,107]:Str),([114,101,115,101,116]:Str),([110,111,111,112]:Str),([113,117,105,116]:Str)]:List Str)=wordL from rfl,hw]
  simp only [Option.bind_some]
  have hit:k5a c.Size=some (Lib.decDigits c.Size.toNat):=by
   have:=WYa c.Size.toNat (by omega)
   rw [show ((c.Size.toNat:Nat):Int)=c.Size by omega] at this
   exact this
  have hdl:=KEa 6 c.Size.toNat (by omega)
  have hnt:=Yaa ok.note
  unfold cmdT
  generalize hW:z0b c.Verb=W at hwl ⊢
  rcases five c.Verb with h1 | h1 | h1 | h1 | ⟨h1,h2,h3,h5⟩
  ·have hn:=ok.name h1
   have hnl:=(QYa hn).2
   unfold argT
   rw [if_pos h1,h1]
   simp only [show ((1:Int)==1)=true from rfl,cond_true]
   rw [kZa (by simp;omega)]
   simp only [Option.bind_some]
   rw [kZa (by simp;omega)]
   simp [ZKa]
  ·unfold argT
   rw [if_neg (by omega),if_pos h1,h1]
   simp only [show ((2:Int)==1)=false from rfl,show ((2:Int)==2)=true from rfl,cond_true,cond_false]
   rw [kZa (by simp;omega)]
   simp only [Option.bind_some]
   rw [kZa (by simp;omega)]
   simp only [Option.bind_some]
   rw [kZa (by simp;omega)]
   simp only [Option.bind_some]
   by_cases hz:c.Size=0
   ·rw [if_pos hz,hz]
    simp [ZKa]
   ·have:(c.Size !=0)=true:=by simpa using hz
    rw [if_neg hz,this,hit]
    simp only [cond_true,Option.bind_some]
    rw [kZa (by simp;omega)]
    simp only [Option.bind_some]
    rw [kZa (by simp;omega)]
    simp [ZKa]
  ·unfold argT
   rw [if_neg (by omega),if_neg (by omega),if_pos h1,h1]
   simp only [show ((3:Int)==1)=false from rfl,show ((3:Int)==2)=false from rfl,show ((3:Int)==3)=true from rfl,cond_true,cond_false]
   rw [kZa (by simp;omega)]
   simp only [Option.bind_some]
   rw [kZa (by simp;omega)]
   simp only [Option.bind_some]
   rw [kZa (by simp;omega)]
   simp only [Option.bind_some]
   by_cases hz:c.Notify=1
   ·rw [if_pos hz,hz]
    simp [ZKa]
   ·have:(c.Notify !=1)=true:=by simpa using hz
    rw [if_neg hz,this,VFa ok.note]
    simp only [cond_true,Option.bind_some]
    rw [kZa (by simp;omega)]
    simp only [Option.bind_some]
    rw [kZa (by simp;omega)]
    simp [ZKa]
  ·unfold argT
   rw [if_neg (by omega),if_neg (by omega),if_neg (by omega),if_pos h1,h1]
   simp only [show ((5:Int)==1)=false from rfl,show ((5:Int)==2)=false from rfl,show ((5:Int)==3)=false from rfl,show ((5:Int)==5)=true from rfl,cond_true,cond_false,hit,Option.bind_some]
   rw [kZa (by simp;omega)]
   simp only [Option.bind_some]
   rw [kZa (by simp;omega)]
   simp only [Option.bind_some]
   cases c.Last with
   | true=>
    simp only [cond_true]
    rw [kZa (by simp;omega)]
    simp [ZKa]
   | false=> simp [ZKa]
  ·unfold argT
   rw [if_neg (by simpa using h1),if_neg (by simpa using h2),if_neg (by simpa using h3),if_neg (by simpa using h5),h1,h2,h3,h5]
   simp [ZKa]
theorem w0b {v:Int} (h:1≤v∧v≤8):zMb v=some (z0b v):=by
 unfold zMb
 exact (congrArg (fun o:Option Str=> o.bind fun v1=> some v1) (Wwa h).1)
theorem Wha:∀k:Fin 8,w7a (k.val:Int)=some (condL.getD k.val []):=by decide
theorem Yba {n:Int} (h:0≤n∧n≤7):w7a n=some (wXb n):=by
 have:=Wha ⟨n.toNat,by omega⟩
 dsimp only at this
 rw [show ((n.toNat:Nat):Int)=n by omega] at this
 exact this
theorem Wia {c:zta} (ok:Qoa c):wBa c=some (cmdT c):=by
 have hwl:=(Wwa ok.verb).2
 have hal:=Q4a ok
 have hs:=ok.size
 have hit:Zka c.Size=some (Lib.decDigits c.Size.toNat):=by
  have:=k0b c.Size.toNat (by omega)
  rw [show ((c.Size.toNat:Nat):Int)=c.Size by omega] at this
  exact this
 have hdl:=KEa 6 c.Size.toNat (by omega)
 have hnt:=Yaa ok.note
 unfold wBa cmdT
 rw [w0b ok.verb]
 generalize hW:z0b c.Verb=W at hwl ⊢
 simp only [Option.bind_some]
 rcases five c.Verb with h1 | h1 | h1 | h1 | ⟨h1,h2,h3,h5⟩
 ·have hn:=ok.name h1
  have hnl:=(QYa hn).2
  unfold argT
  rw [if_pos h1,h1]
  simp only [show ((1:Int)==1)=true from rfl,cond_true]
  rw [kZa (by simp;omega)]
  simp only [Option.bind_some]
  rw [kZa (by simp;omega)]
  simp [ZKa]
 ·unfold argT
  rw [if_neg (by omega),if_pos h1,h1]
  simp only [show ((2:Int)==1)=false from rfl,show ((2:Int)==2)=true from rfl,cond_true,cond_false]
  rw [kZa (by simp;omega)]
  simp only [Option.bind_some]
  rw [kZa (by simp;omega)]
  simp only [Option.bind_some]
  rw [kZa (by simp;omega)]
  simp only [Option.bind_some]
  by_cases hz:c.Size=0
  ·rw [if_pos hz,hz]
   simp [ZKa]
  ·rw [if_neg hz,decide_eq_true (by omega),hit]
   simp only [cond_true]
   rw [kZa (by simp;omega)]
   simp only [Option.bind_some]
   rw [kZa (by simp;omega)]
   simp [ZKa]
 ·unfold argT
  rw [if_neg (by omega),if_neg (by omega),if_pos h1,h1]
  simp only [show ((3:Int)==1)=false from rfl,show ((3:Int)==2)=false from rfl,show ((3:Int)==3)=true from rfl,cond_true,cond_false]
  rw [kZa (by simp;omega)]
  simp only [Option.bind_some]
  rw [kZa (by simp;omega)]
  simp only [Option.bind_some]
  rw [kZa (by simp;omega)]
  simp only [Option.bind_some]
  by_cases hz:c.Notify=1
  ·rw [if_pos hz,hz]
   simp [ZKa]
  ·have:(c.Notify !=1)=true:=by simpa using hz
   rw [if_neg hz,this,Yba ok.note]
   simp only [cond_true]
   rw [kZa (by simp;omega)]
   simp only [Option.bind_some]
   rw [kZa (by simp;omega)]
   simp [ZKa]
 ·unfold argT
  rw [if_neg (by omega),if_neg (by omega),if_neg (by omega),if_pos h1,h1]
  simp only [show ((5:Int)==1)=false from rfl,show ((5:Int)==2)=false from rfl,show ((5:Int)==3)=false from rfl,show ((5:Int)==5)=true from rfl,cond_true,cond_false,hit,Option.bind_some]
  rw [kZa (by simp;omega)]
  simp only [Option.bind_some]
  rw [kZa (by simp;omega)]
  simp only [Option.bind_some]
  cases c.Last with
  | true=>
   simp only [cond_true]
   rw [kZa (by simp;omega)]
   simp [ZKa]
  | false=> simp [ZKa]
 ·unfold argT
  rw [if_neg (by simpa using h1),if_neg (by simpa using h2),if_neg (by simpa using h3),if_neg (by simpa using h5),h1,h2,h3,h5]
  simp [ZKa]
end Go.Proofs.YtjnmamghadpedaaGreatDoor
namespace Go.Proofs.YtjnmamghadpedaaGreatDoor
open Go.RowKit
set_option maxHeartbeats 1000000
def rlnC (c:UInt8):Bool:=c==13 || c==10
def digC (c:UInt8):Bool:=decide (48≤c) && decide (c≤57)
def smLn (l:List Str):Prop:=l.length≤1048576∧∀s∈l,s.length≤1048576
theorem qLb (s:Str) (hs:s.length≤1048576):zRa s [13,10]=some (s.any rlnC):=by
 rw [wIa s _ hs (by decide) (by decide) (by decide)]
 simp only [Option.some.injEq]
 congr 1
 funext c
 rw [Bool.eq_iff_iff]
 simp [rlnC]
theorem w1b (s:Str) (hs:s.length≤1048576):VVa s=some (s.any rlnC):=by
 unfold VVa
 rw [zQa s (fun _ c=> if rlnC c then some true else none) (.inl ()) .inr,wia]
 ·cases s.any rlnC <;> rfl
 ·unfold QQa;rw [z1a];rfl
 ·intro i c hc
  have hi:=kca hc
  unfold QQa
  rw [kAa hc,zYa hc]
  simp only [cond_true,Option.bind_some,v6a c 13 (by decide),v6a c 10 (by decide),sc i (by omega)]
  unfold rlnC
  cases c==13 <;> cases c==10 <;> rfl
theorem lt48 (c:UInt8):decide ((c.toNat:Int) < 48)= !decide ((48:UInt8)≤c):=by
 rw [←jua 48 c (by decide),Bool.eq_iff_iff];simp
theorem gt57 (c:UInt8):decide ((57:Int) < (c.toNat:Int))= !decide (c≤(57:UInt8)):=by
 rw [←jva 57 c (by decide),Bool.eq_iff_iff];simp
theorem Yca (s:Str) (hs:s.length≤1048576):vla s=some (s.all digC && s !=([]:Str)):=by
 unfold vla
 rw [zQa s (fun _ c=> if !digC c then some false else none) (.inl ()) .inr,wia,W1a]
 ·cases s.all digC <;> rfl
 ·unfold wza;rw [z1a];rfl
 ·intro i c hc
  have hi:=kca hc
  unfold wza
  rw [kAa hc,zYa hc]
  simp only [cond_true,Option.bind_some,lt48,gt57,sc i (by omega)]
  unfold digC
  cases decide ((48:UInt8)≤c) <;> cases decide (c≤(57:UInt8)) <;> rfl
def num3 (a b c:UInt8):Nat:=((a.toNat - 48) * 10+(b.toNat - 48)) * 10+(c.toNat - 48)
theorem Zpa {c:UInt8}:digC c=true↔48≤c.toNat∧c.toNat≤57:=by
 unfold digC
 rw [Bool.and_eq_true,decide_eq_true_eq,decide_eq_true_eq,UInt8.le_iff_toNat_le,UInt8.le_iff_toNat_le]
 exact Iff.rfl
theorem Z9a {c:UInt8} (h:digC c=true):Lib.digitVal c=some (c.toNat - 48):=by
 unfold Lib.digitVal;rw [if_pos (Zpa.1 h)]
theorem atoi_3 {a b c:UInt8} (ha:digC a=true) (hb:digC b=true) (hc:digC c=true):qJa [a,b,c]=some ((num3 a b c:Int),false):=by
 have h1:=Zpa.1 ha
 have n1:(a==45)=false:=by rw [beq_eq_false_iff_ne];intro e;subst e;simp at h1
 have n2:(a==43)=false:=by rw [beq_eq_false_iff_ne];intro e;subst e;simp at h1
 have e:Lib.atoi [a,b,c]=some (num3 a b c:Int):=by
  unfold Lib.atoi
  dsimp only
  rw [n1,n2]
  simp [Lib.decNat,Lib.decFrom,Z9a ha,Z9a hb,Z9a hc,num3]
 unfold qJa
 rw [if_pos (show ([a,b,c]:Str).length≤18 by simp),e]
theorem Qpa (s:Str) (i:Nat) (x:UInt8) (acc:Nat) (h:s[i]? =some x) (hi:i≤1048576) (ha:acc≤1000000):
  y0a s ((acc:Int),(i:Int))=some (if digC x then .cont (((acc * 10+(x.toNat - 48):Nat):Int),((i+1:Nat):Int)) else .out (.inr (-1))):=by
 unfold y0a
 dsimp only
 rw [kAa h,zYa h]
 simp only [cond_true,Option.bind_some,v8a,jua 48 x (by decide),jva 57 x (by decide),sc i (by omega)]
 have e:(decide ((48:UInt8)≤x) && decide (x≤(57:UInt8)))=digC x:=rfl
 rw [e]
 cases hx:digC x with
 | false=> rfl
 | true=>
  have h1:=Zpa.1 hx
  have h2:(x - 48).toNat=x.toNat - 48:=UInt8.toNat_sub_of_le x 48 (by rw [UInt8.le_iff_toNat_le];exact h1.1)
  rw [h2]
  simp only [Bool.not_true,cond_false,if_true]
  have e1:w64 (10 * (acc:Int))=10 * (acc:Int):=z0a (by omega) (by omega)
  rw [e1,z0a (by omega) (by omega)]
  congr 4
  omega
theorem vzb (a b c:UInt8):KBa [a,b,c]=some (if a=48 then -1 else if digC a && digC b && digC c then (num3 a b c:Int) else -1):=by
 unfold KBa
 have e0:R_In (([a,b,c]:Str).length:Int) 1 9=some true:=by rw [v8a];rfl
 have e1:decide ((1:Int) < (([a,b,c]:Str).length:Int))=true:=rfl
 have e2:idx [a,b,c] 0=some a:=rfl
 rw [e0,e1,e2]
 simp only [Option.bind_some,Bool.not_true,cond_false,cond_true,v6a a 48 (by decide)]
 by_cases h48:a=48
 ·rw [if_pos h48,h48];rfl
 ·rw [if_neg h48,(by simpa using h48:(a==48)=false)]
  simp only [cond_false]
  have s0:=Qpa [a,b,c] 0 a 0 rfl (by omega) (by omega)
  have z:((0:Int),(0:Int))=(((0:Nat):Int),((0:Nat):Int)):=rfl
  rw [z]
  cases ha:digC a with
  | false=>
   rw [ha] at s0
   rw [zHa s0];rfl
  | true=>
   rw [ha,if_pos rfl] at s0
   have ha' :=Zpa.1 ha
   rw [zOa s0]
   have s1:=Qpa [a,b,c] 1 b (0 * 10+(a.toNat - 48)) rfl (by omega) (by omega)
   cases hb:digC b with
   | false=> rw [hb] at s1;rw [zHa s1];rfl
   | true=>
    rw [hb,if_pos rfl] at s1
    have hb' :=Zpa.1 hb
    rw [zOa s1]
    have s2:=Qpa [a,b,c] 2 c ((0 * 10+(a.toNat - 48)) * 10+(b.toNat - 48)) rfl (by omega) (by omega)
    cases hc:digC c with
    | false=> rw [hc] at s2;rw [zHa s2];rfl
    | true=>
     rw [hc,if_pos rfl] at s2
     rw [zOa s2,zHa (r:= .inl (((0 * 10+(a.toNat - 48)) * 10+(b.toNat - 48)) * 10+(c.toNat - 48):Nat)) (by unfold y0a;rfl)]
     simp [num3]
def V3a (c:Int):Bool:=decide (200≤c) && decide (c≤599)
theorem Q5a (c:Int):yxa c=some (V3a c):=by unfold yxa V3a;cases decide (200≤c) <;> rfl
def qMb (i:Nat) (s:Str):Option zza:=if 500 < s.length then some ⟨1,i⟩ else if s.any rlnC then some ⟨5,i⟩ else none
def K7a (r:kba):zza:=if !V3a r.Code then ⟨3, -1⟩ else if r.Lines.length < 1∨20 < r.Lines.length then ⟨2, -2⟩ else (zUa qMb 0 r.Lines).getD ⟨0,0⟩
theorem dec500 (s:Str):decide ((500:Int) < (s.length:Int))=decide (500 < s.length):=by generalize s.length=n;rw [Bool.eq_iff_iff];simp;omega
theorem VGa (r:kba) (h:smLn r.Lines):vPa r=some (K7a r):=by
 obtain ⟨h1,h2⟩:=h
 unfold vPa K7a
 rw [zQa r.Lines qMb (.inl ()) .inr (by unfold vya;rw [z1a];rfl) (fun i s hs=> by
  have hi:=kca hs
  have hsl:=h2 s (List.mem_of_getElem? hs)
  unfold vya qMb
  rw [kAa hs,zYa hs]
  simp only [cond_true,Option.bind_some,dec500,qLb s hsl,zPa,sc i (by omega)]
  by_cases h500:500 < s.length
  ·simp [h500]
  ·simp only [h500,decide_false,cond_false,if_false]
   cases s.any rlnC <;> rfl)]
 simp only [Option.bind_some,Q5a,zPa,z6a,KFa]
 cases V3a r.Code with
 | false=> rfl
 | true=>
  simp only [Bool.not_true,cond_false,Bool.false_eq_true,if_false]
  by_cases ha:r.Lines.length < 1
  ·rw [if_pos (Or.inl ha),decide_eq_true (by omega)];rfl
  ·rw [decide_eq_false (by omega)]
   by_cases hb:20 < r.Lines.length
   ·rw [if_pos (Or.inr hb),decide_eq_true (by omega)];rfl
   ·rw [if_neg (by omega),decide_eq_false (by omega)];rfl
structure ROk (r:kba):Prop where
 code:∃u:Nat,r.Code=u∧200≤u∧u≤599
 len:1≤r.Lines.length∧r.Lines.length≤20
 lines:∀s∈r.Lines,s.length≤500∧s.any rlnC=false
theorem w2b {r:kba} (h:ROk r):K7a r=⟨0,0⟩:=by
 obtain ⟨⟨u,hu,h1,h2⟩,hl,hx⟩:=h
 unfold K7a
 have hc:V3a r.Code=true:=by unfold V3a;rw [hu];simp;omega
 rw [hc,if_neg (by simp),if_neg (by omega)]
 rw [v7a.2 (fun i s hs=> by
  obtain ⟨a,b⟩:=hx s (List.mem_of_getElem? hs)
  unfold qMb;rw [if_neg (by omega),b];rfl)]
 rfl
theorem YMa (r:kba) (h:smLn r.Lines):yPa r=some (if (K7a r).Code≠0 then (0,K7a r) else (iQuo r.Code 100,⟨0,0⟩)):=by
 unfold yPa
 rw [VGa r h]
 simp only [Option.bind_some,kpa,z6a]
 by_cases hc:(K7a r).Code=0
 ·have e:((K7a r).Code !=0)=false:=by simp [hc]
  rw [e,if_neg (by simp [hc])];rfl
 ·have e:((K7a r).Code !=0)=true:=by simpa using hc
  rw [e,if_pos hc];rfl
end Go.Proofs.YtjnmamghadpedaaGreatDoor
namespace Go.Proofs.YtjnmamghadpedaaGreatDoor
open Go.RowKit
set_option maxHeartbeats 1000000
def rdQ:Str→Option Nat
 | a::b::c::d::r=> if (d==45 || d==32) && (digC a && digC b && digC c) && !((a::b::c::d::r).any rlnC) && (decide (200≤num3 a b c) && decide (num3 a b c≤599)) then some (num3 a b c) else none
 | _=> none
theorem qbb {s:Str} {n:Nat} (h:rdQ s=some n):4≤s.length∧200≤n∧n≤599:=by
 unfold rdQ at h
 split at h
 ·split at h
  ·rename_i hc
   cases h
   simp only [Bool.and_eq_true,decide_eq_true_eq] at hc
   exact ⟨by simp,hc.2.1,hc.2.2⟩
  ·cases h
 ·cases h
theorem rdQ_at {s:Str} {n:Nat} (h:rdQ s=some n):∃d,s[3]? =some d∧idx s 3=some d∧(d=45∨d=32):=by
 unfold rdQ at h
 split at h
 ·rename_i a b c d r
  split at h
  ·rename_i hc
   simp only [Bool.and_eq_true,Bool.or_eq_true,beq_iff_eq] at hc
   exact ⟨d,rfl,rfl,hc.1.1.1⟩
  ·cases h
 ·cases h
theorem u8_or (d:UInt8) {γ:Type} (X Y:γ):(bif ((d.toNat:Int) !=45) then (bif ((d.toNat:Int) !=32) then X else Y) else Y)=if (d==45 || d==32) then Y else X:=by
 rw [Qma d 45 (by decide),Qma d 32 (by decide)]
 unfold bne
 cases d==45 <;> cases d==32 <;> rfl
theorem cut03 (a b c d:UInt8) (r:Str):cut (a::b::c::d::r) 0 3=some [a,b,c]:=by
 have:=QWa (l:=a::b::c::d::r) (b:=3) (by simp)
 exact this
theorem cut4 (s:Str) (h:4≤s.length):cut s 4 (s.length:Int)=some (s.drop 4):=y3a (a:=4) h
theorem J8a (s:Str) (hs:s.length≤1048576):∃v,jVa s=some v∧v.2.2.2=(rdQ s).isSome∧∀n,rdQ s=some n→v=((n:Int),s.drop 4,(s[3]? ==some 32),true):=by
 match s,hs with
 | [],_=> exact ⟨_,rfl,rfl,fun n h=> by cases h⟩
 | [_],_=> exact ⟨_,rfl,rfl,fun n h=> by cases h⟩
 | [_,_],_=> exact ⟨_,rfl,rfl,fun n h=> by cases h⟩
 | [_,_,_],_=> exact ⟨_,rfl,rfl,fun n h=> by cases h⟩
 | a::b::c::d::r,hs=>
  have e1:decide (((a::b::c::d::r).length:Int) < 4)=false:=by simp;omega
  have e2:idx (a::b::c::d::r) 3=some d:=rfl
  have e3:vla [a,b,c]=some (digC a && digC b && digC c):=by
   have h:=Yca [a,b,c] (by simp)
   rw [h]
   show some ((digC a && (digC b && (digC c && true))) && true)=_
   rw [Bool.and_true,Bool.and_true,Bool.and_assoc]
  have e4:=qLb _ hs
  have e5:=cut4 (a::b::c::d::r) (by simp)
  unfold jVa
  rw [e1,e2,cut03,e4,e5]
  simp only [Option.bind_some,cond_false,e3,Q5a]
  rw [u8_or]
  have hr:rdQ (a::b::c::d::r)=if (d==45 || d==32) && (digC a && digC b && digC c) && !((a::b::c::d::r).any rlnC) && (decide (200≤num3 a b c) && decide (num3 a b c≤599)) then some (num3 a b c) else none:=rfl
  rw [hr]
  cases h1:(d==45 || d==32) with
  | false=> exact ⟨_,rfl,rfl,fun n h=> by simp at h⟩
  | true=>
   cases h2:(digC a && digC b && digC c) with
   | false=> exact ⟨_,rfl,rfl,fun n h=> by simp at h⟩
   | true=>
    cases h3:(a::b::c::d::r).any rlnC with
    | true=> exact ⟨_,rfl,rfl,fun n h=> by simp at h⟩
    | false=>
     have h2' :=h2
     rw [Bool.and_eq_true,Bool.and_eq_true] at h2'
     simp only [Bool.not_true,Bool.not_false,Bool.true_and,if_true,cond_false,Option.bind_some]
     rw [atoi_3 h2'.1.1 h2'.1.2 h2'.2]
     simp only [Option.bind_some]
     have e6:V3a ((num3 a b c:Nat):Int)=(decide (200≤num3 a b c) && decide (num3 a b c≤599)):=by
      unfold V3a
      congr 1
      ·rw [Bool.eq_iff_iff];simp;omega
      ·rw [Bool.eq_iff_iff];simp;omega
     rw [e6]
     cases h4:(decide (200≤num3 a b c) && decide (num3 a b c≤599)) with
     | false=> exact ⟨_,rfl,rfl,fun n h=> by simp at h⟩
     | true=>
      refine ⟨_,rfl,rfl,fun n h=> ?_⟩
      simp only [if_true,Option.some.injEq] at h
      subst h
      rw [v6a d 32 (by decide)]
      simp
theorem w3b (s:Str) (hs:s.length≤1048576):∃w:Int,(((bif decide (4≤(s.length:Int)) then (idx s 3).bind fun v18=> (bif ((v18.toNat:Int)==45) then (VVa s).bind fun v21=> some ((!v21)) else (idx s 3).bind fun v23=> (bif ((v23.toNat:Int)==32) then (VVa s).bind fun v26=> some ((!v26)) else some false)) else some false):Option Bool).bind fun (j16:Bool)=> (bif j16 then (cut s 0 3).bind fun v29=> (KBa v29).bind fun v31=> some v31 else some ((-1))):Option Int)=some w∧(decide (200≤w) && decide (w≤599))=(rdQ s).isSome∧∀n,rdQ s=some n→w=n:=by
 match s,hs with
 | [],_=> exact ⟨_,rfl,rfl,fun n h=> by cases h⟩
 | [_],_=> exact ⟨_,rfl,rfl,fun n h=> by cases h⟩
 | [_,_],_=> exact ⟨_,rfl,rfl,fun n h=> by cases h⟩
 | [_,_,_],_=> exact ⟨_,rfl,rfl,fun n h=> by cases h⟩
 | a::b::c::d::r,hs=>
  have e1:decide (4≤((a::b::c::d::r).length:Int))=true:=by simp;omega
  have e2:idx (a::b::c::d::r) 3=some d:=rfl
  rw [e1,e2,cut03,w1b _ hs]
  simp only [Option.bind_some,cond_true,v6a d 45 (by decide),v6a d 32 (by decide),vzb]
  have hr:rdQ (a::b::c::d::r)=if (d==45 || d==32) && (digC a && digC b && digC c) && !((a::b::c::d::r).any rlnC) && (decide (200≤num3 a b c) && decide (num3 a b c≤599)) then some (num3 a b c) else none:=rfl
  have hj:(bif d==45 then some (!(a::b::c::d::r).any rlnC) else bif d==32 then some (!(a::b::c::d::r).any rlnC) else some false)=some ((d==45 || d==32) && !(a::b::c::d::r).any rlnC):=by
   cases d==45 <;> cases d==32 <;> rfl
  rw [hj,hr]
  simp only [Option.bind_some]
  cases h1:(d==45 || d==32) with
  | false=> exact ⟨_,rfl,rfl,fun n h=> by simp at h⟩
  | true=>
   cases h3:(a::b::c::d::r).any rlnC with
   | true=> exact ⟨_,rfl,by simp,fun n h=> by simp at h⟩
   | false=>
    simp only [Bool.not_false,Bool.and_true,Bool.true_and,cond_true]
    refine ⟨_,rfl, ?_⟩
    by_cases h48:a=48
    ·rw [if_pos h48]
     have hn:(digC a && digC b && digC c)=true→¬200≤num3 a b c:=by
      intro h
      rw [Bool.and_eq_true,Bool.and_eq_true] at h
      have hb:=Zpa.1 h.1.2
      have hc:=Zpa.1 h.2
      have ha:a.toNat=48:=by rw [h48];rfl
      unfold num3;omega
     cases h2:(digC a && digC b && digC c) with
     | false=> exact ⟨rfl,fun n h=> by simp at h⟩
     | true=>
      rw [decide_eq_false (hn h2)]
      exact ⟨rfl,fun n h=> by simp at h⟩
    ·rw [if_neg h48]
     cases h2:(digC a && digC b && digC c) with
     | false=> exact ⟨rfl,fun n h=> by simp at h⟩
     | true=>
      have e6:(decide (200≤((num3 a b c:Nat):Int)) && decide (((num3 a b c:Nat):Int)≤599))=(decide (200≤num3 a b c) && decide (num3 a b c≤599)):=by
       congr 1
       ·rw [Bool.eq_iff_iff];simp;omega
       ·rw [Bool.eq_iff_iff];simp;omega
      simp only [if_true,Bool.true_and,e6]
      cases h4:(decide (200≤num3 a b c) && decide (num3 a b c≤599)) with
      | false=> exact ⟨rfl,fun n h=> by simp at h⟩
      | true=> exact ⟨rfl,fun n h=> by simp only [if_true,Option.some.injEq] at h;rw [h]⟩
abbrev PR:=kba × Int × zza
def parP:List Str→Nat→List Str→Int→Option PR
 | [],_,_,_=> none
 | s::r,i,acc,prev=>
  if i=20 then some (⟨0, []⟩,0,⟨2,i⟩)
  else match rdQ s with
   | none=> some (⟨0, []⟩,0,⟨11,i⟩)
   | some n=>
    if 504 < s.length then some (⟨0, []⟩,0,⟨1,i⟩)
    else if 0 < i∧(n:Int)≠prev then some (⟨0, []⟩,0,⟨5,i⟩)
    else if s[3]? =some 32 then some (⟨n,acc++ [s.drop 4]⟩,((i+1:Nat):Int),⟨0,0⟩)
    else parP r (i+1) (acc++ [s.drop 4]) n
def voa (l:List Str):PR:=if 300 < l.length then (⟨0, []⟩,0,⟨2, -1⟩) else (parP l 0 [] 0).getD (⟨0, []⟩,0,⟨9, -2⟩)
theorem gt0 (i:Nat) (n:Nat) (prev:Int):(bif decide ((0:Int) < (i:Int)) then some ((n:Int) !=prev) else some false)=some (decide (0 < i∧(n:Int)≠prev)):=by
 by_cases h:0 < i
 ·rw [decide_eq_true (by omega:(0:Int) < (i:Int))]
  by_cases h2:(n:Int)=prev
  ·simp [h2]
  ·simp [h2,h]
 ·rw [decide_eq_false (by omega:¬(0:Int) < (i:Int))]
  simp [h]
theorem at32 (s:Str) (d:UInt8) (h:s[3]? =some d):(s[3]? ==some 32)=decide (s[3]? =some 32):=by
 rw [h,Bool.eq_iff_iff];simp
theorem eq20 (i:Nat):((i:Int)==20)=decide (i=20):=by rw [Bool.eq_iff_iff];simp;omega
def qNb (x:Str) (i:Nat) (acc:List Str) (prev:Int):Step (Int × List Str × Int) (Unit ⊕ PR):=
 if i=20 then .out (.inr (⟨0, []⟩,0,⟨2,i⟩))
 else match rdQ x with
 | none=> .out (.inr (⟨0, []⟩,0,⟨11,i⟩))
 | some n=>
  if 504 < x.length then .out (.inr (⟨0, []⟩,0,⟨1,i⟩))
  else if 0 < i∧(n:Int)≠prev then .out (.inr (⟨0, []⟩,0,⟨5,i⟩))
  else if x[3]? =some 32 then .out (.inr (⟨n,acc++ [x.drop 4]⟩,((i+1:Nat):Int),⟨0,0⟩))
  else .cont (((i+1:Nat):Int),acc++ [x.drop 4],(n:Int))
theorem Jma (l:List Str) {body:Int × List Str × Int→Option (Step (Int × List Str × Int) (Unit ⊕ PR))} (h0:∀acc prev,body ((l.length:Int),acc,prev)=some (.out (.inl ())))
  (h1:∀(i:Nat) x acc prev,l[i]? =some x→acc.length=i→body ((i:Int),acc,prev)=some (qNb x i acc prev)):iter body (0,([]:List Str),0)=some ((parP l 0 [] 0).elim (Sum.inl ()) Sum.inr):=by
 refine Jea l (fun i (s:List Str × Int)=> ((i:Int),s.1,s.2)) (fun i r s=> (parP r i s.1 s.2).elim (Sum.inl ()) Sum.inr) (fun i _ s=> s.1.length=i) ?_ ?_ (([]:List Str),(0:Int)) rfl rfl
 ·intro s _
  exact h0 _ _
 ·intro p x q s hp hi
  obtain ⟨acc,prev⟩:=s
  dsimp only at hi ⊢
  rw [h1 p.length x acc prev (by rw [hp];simp) hi]
  unfold qNb
  rw [parP]
  by_cases h20:p.length=20
  ·rw [if_pos h20,if_pos h20];left;rfl
  ·rw [if_neg h20,if_neg h20]
   cases hr:rdQ x with
   | none=> left;rfl
   | some n=>
    dsimp only
    by_cases h504:504 < x.length
    ·rw [if_pos h504,if_pos h504];left;rfl
    ·rw [if_neg h504,if_neg h504]
     by_cases h5:0 < p.length∧(n:Int)≠prev
     ·rw [if_pos h5,if_pos h5];left;rfl
     ·rw [if_neg h5,if_neg h5]
      by_cases h32:x[3]? =some 32
      ·rw [if_pos h32,if_pos h32];left;rfl
      ·rw [if_neg h32,if_neg h32]
       exact Or.inr ⟨(acc++ [x.drop 4],(n:Int)),rfl,rfl,by simp [hi]⟩
theorem YNa (l:List Str) (h:smLn l):yOa l=some (voa l):=by
 unfold yOa voa
 by_cases h300:300 < l.length
 ·rw [if_pos h300,decide_eq_true (by omega)];rfl
 ·rw [if_neg h300,decide_eq_false (by omega),Jma l]
  ·simp only [cond_false,Option.bind_some,zPa]
   cases parP l 0 [] 0 <;> rfl
  ·intro acc prev
   unfold wVa
   dsimp only
   rw [z1a];rfl
  ·intro i x acc prev hx hi
   have hle:=kca hx
   have hxs:=h.2 x (List.mem_of_getElem? hx)
   obtain ⟨v,hv,hv1,hv2⟩:=J8a x hxs
   unfold wVa qNb
   dsimp only
   rw [kAa hx,zYa hx]
   simp only [cond_true,Option.bind_some,hv,hv1,eq20,zPa,z6a]
   by_cases h20:i=20
   ·rw [if_pos h20,decide_eq_true h20];rfl
   ·rw [if_neg h20,decide_eq_false h20]
    simp only [cond_false]
    cases hr:rdQ x with
    | none=> rfl
    | some n=>
     have hvn:=hv2 n hr
     subst hvn
     have hn:=qbb hr
     obtain ⟨d,hd,_,_⟩:=rdQ_at hr
     have e5:decide ((500:Int) < (((x.drop 4).length:Nat):Int))=decide (504 < x.length):=by
      rw [Bool.eq_iff_iff,List.length_drop,decide_eq_true_eq,decide_eq_true_eq];omega
     simp only [Option.isSome_some,Bool.not_true,cond_false,e5,gt0,Option.bind_some]
     by_cases h504:504 < x.length
     ·rw [decide_eq_true h504,if_pos h504];rfl
     ·rw [decide_eq_false h504,if_neg h504]
      simp only [cond_false]
      by_cases h5:0 < i∧(n:Int)≠prev
      ·rw [decide_eq_true h5,if_pos h5];rfl
      ·rw [decide_eq_false h5,if_neg h5]
       simp only [cond_false,Option.bind_some,bne_self_eq_false]
       rw [koa (by simp;omega)]
       simp only [Option.bind_some,at32 x d hd,sc i (by omega)]
       by_cases h32:x[3]? =some 32
       ·rw [decide_eq_true h32,if_pos h32];rfl
       ·rw [decide_eq_false h32,if_neg h32];rfl
theorem z2b (l:List Str) (h:smLn l):Z3a l=some (voa l):=by
 unfold Z3a voa
 by_cases h300:300 < l.length
 ·rw [if_pos h300,decide_eq_true (by omega)];rfl
 ·rw [if_neg h300,decide_eq_false (by omega),Jma l]
  ·simp only [cond_false,Option.bind_some,jCa]
   cases parP l 0 [] 0 <;> rfl
  ·intro acc prev
   unfold jsa
   dsimp only
   rw [z1a];rfl
  ·intro i x acc prev hx hi
   have hle:=kca hx
   have hxs:=h.2 x (List.mem_of_getElem? hx)
   obtain ⟨w,hw,hw1,hw2⟩:=w3b x hxs
   unfold jsa qNb
   dsimp only
   rw [kAa hx,zYa hx]
   simp only [cond_true,Option.bind_some,eq20,jCa]
   by_cases h20:i=20
   ·rw [if_pos h20,decide_eq_true h20];rfl
   ·rw [if_neg h20,decide_eq_false h20]
    simp only [cond_false]
    rw [hw]
    simp only [Option.bind_some,v8a,hw1]
    cases hr:rdQ x with
    | none=> rfl
    | some n=>
     have hvn:=hw2 n hr
     subst hvn
     have hn:=qbb hr
     obtain ⟨d,hd,hd2,_⟩:=rdQ_at hr
     have e5:decide ((504:Int) < (x.length:Int))=decide (504 < x.length):=by
      rw [Bool.eq_iff_iff,decide_eq_true_eq,decide_eq_true_eq];omega
     simp only [Option.isSome_some,Bool.not_true,cond_false,e5,gt0,Option.bind_some]
     by_cases h504:504 < x.length
     ·rw [decide_eq_true h504,if_pos h504];rfl
     ·rw [decide_eq_false h504,if_neg h504]
      simp only [cond_false]
      by_cases h5:0 < i∧(n:Int)≠prev
      ·rw [decide_eq_true h5,if_pos h5];rfl
      ·rw [decide_eq_false h5,if_neg h5]
       simp only [cond_false,Option.bind_some]
       rw [cut4 x hn.1,Option.bind_some,koa (by simp;omega)]
       rw [hd2]
       simp only [Option.bind_some,sc i (by omega),v6a d 32 (by decide)]
       rw [hd]
       by_cases h32:d=32
       ·rw [h32];rfl
       ·rw [(by simpa using h32:(d==32)=false),if_neg (by simpa using h32)];rfl
end Go.Proofs.YtjnmamghadpedaaGreatDoor
namespace Go.Proofs.YtjnmamghadpedaaGreatDoor
open Go.RowKit
def fl:List UInt8→List UInt8→List Str × List UInt8
 | cur, []=> ([],cur)
 | cur, [c]=> ([],cur++ [c])
 | cur,c::d::r=> if c=13∧d=10 then (cur::(fl [] r).1,(fl [] r).2) else fl (cur++ [c]) (d::r)
theorem qOb (cur r:List UInt8):fl cur (13::10::r)=(cur::(fl [] r).1,(fl [] r).2):=by rw [fl,if_pos ⟨rfl,rfl⟩]
theorem Yda {c d:UInt8} (h:¬(c=13∧d=10)) (cur r:List UInt8):fl cur (c::d::r)=fl (cur++ [c]) (d::r):=by rw [fl,if_neg h]
theorem Yea (c d:UInt8) (r:List UInt8):Lib.index (c::d::r) [13,10]=if c=13∧d=10 then 0 else if Lib.index (d::r) [13,10]= -1 then -1 else Lib.index (d::r) [13,10]+1:=by
 rw [Lib.index]
 by_cases h:c=13∧d=10
 ·obtain ⟨rfl,rfl⟩:=h;simp
 ·rw [if_neg h,if_neg]
  ·simp
  ·simp only [List.isPrefixOf,Bool.and_true,Bool.and_eq_true,beq_iff_eq]
   rintro ⟨rfl,rfl⟩;exact h ⟨rfl,rfl⟩
theorem w4b (l:List UInt8):∀cur,Lib.index l [13,10]= -1→fl cur l=([],cur++l):=by
 induction l with
 | nil=> intro cur _;simp [fl]
 | cons c r ih=>
  intro cur h
  match r,ih with
  | [],_=> simp [fl]
  | d::r,ih=>
   rw [Yea] at h
   have hg:=Lib.index_ge (d::r) [13,10]
   split at h
   ·cases h
   ·rename_i hn
    rw [Yda hn,ih]
    ·simp
    ·split at h
     ·assumption
     ·omega
theorem qcb (l:List UInt8):∀(cur:List UInt8) (k:Nat),Lib.index l [13,10]=(k:Int)→k+2≤l.length∧fl cur l=((cur++l.take k)::(fl [] (l.drop (k+2))).1,(fl [] (l.drop (k+2))).2):=by
 induction l with
 | nil=> intro cur k h;simp [Lib.index] at h
 | cons c r ih=>
  intro cur k h
  match r,ih with
  | [],_=> simp [Lib.index] at h
  | d::r,ih=>
   rw [Yea] at h
   have hg:=Lib.index_ge (d::r) [13,10]
   split at h
   ·rename_i hn
    obtain ⟨rfl,rfl⟩:=hn
    obtain rfl:k=0:=by omega
    rw [qOb];simp
   ·rename_i hn
    split at h
    ·omega
    ·obtain ⟨j,rfl⟩:∃j,k=j+1:=⟨k - 1,by omega⟩
     obtain ⟨h1,h2⟩:=ih (cur++ [c]) j (by omega)
     rw [Yda hn,h2]
     refine ⟨by simp at h1 ⊢;omega, ?_⟩
     simp
theorem qdb (l:List UInt8) (cur:List UInt8):((fl cur l).1.flatMap fun x=> x++ [13,10])++(fl cur l).2=cur++l:=by
 fun_induction fl cur l with
 | case1 cur=> simp
 | case2 cur c=> simp
 | case3 cur c d r h ih=> obtain ⟨rfl,rfl⟩:=h;simpa using ih
 | case4 cur c d r h ih=> simpa using ih
theorem w5b (l:List UInt8) (cur:List UInt8):2 * (fl cur l).1.length+(fl cur l).2.length≤cur.length+l.length:=by
 fun_induction fl cur l with
 | case1 cur=> simp
 | case2 cur c=> simp
 | case3 cur c d r h ih=> simp at ih ⊢;omega
 | case4 cur c d r h ih=> simp at ih ⊢;omega
end Go.Proofs.YtjnmamghadpedaaGreatDoor
namespace Go.Proofs.YtjnmamghadpedaaGreatDoor
open Go.RowKit
theorem Yfa (b:List UInt8) (hb:b.length < 8796093022208) (n:Nat):∀(from_ i:Nat) (out:List Str),from_ < i→b.length - i=n→out.length≤from_→i≤b.length+1→from_≤b.length→
  iter (kIa b) ((from_:Int),(i:Int),out)=some (((b.length - (fl ((b.drop from_).take (i - 1 - from_)) (b.drop (i - 1))).2.length:Nat):Int),out++(fl ((b.drop from_).take (i - 1 - from_)) (b.drop (i - 1))).1):=by
 induction n using Nat.strongRecOn with
 | _ n ih=>
  intro from_ i out h1 h2 h3 h5 h7
  by_cases h4:i < b.length
  ·have e1:b.drop (i - 1)=b[i - 1]::b[i]::b.drop (i+1):=by
    rw [List.drop_eq_getElem_cons (by omega)]
    congr 1
    rw [show i - 1+1=i by omega,List.drop_eq_getElem_cons h4]
   by_cases hx:b[i - 1]=13∧b[i]=10
   ·have hbd:kIa b ((from_:Int),(i:Int),out)=some (.cont (((i+1:Nat):Int),((i+1:Nat):Int),out++ [(b.drop from_).take (i - 1 - from_)])):=by
     unfold kIa
     simp (disch:=omega) only [wGb,Jda,zOb,QVa]
     simp only [hx,Option.bind_some]
     rw [koa (by simp;omega)]
     simp [h4,h1]
    rw [zOa hbd,e1,hx.1,hx.2,qOb]
    by_cases h6:i+1 < b.length
    ·have hbd2:kIa b (((i+1:Nat):Int),((i+1:Nat):Int),out++ [(b.drop from_).take (i - 1 - from_)])=some (.cont (((i+1:Nat):Int),((i+2:Nat):Int),out++ [(b.drop from_).take (i - 1 - from_)])):=by
      unfold kIa
      simp (disch:=omega) only [wGb,Jda,QVa]
      simp [h6,show (i:Int)+1 < b.length by omega]
      omega
     rw [zOa hbd2,ih (b.length - (i+2)) (by omega) (i+1) (i+2) _ (by omega) rfl (by simp;omega) (by omega) (by omega)]
     simp
    ·have hbd2:kIa b (((i+1:Nat):Int),((i+1:Nat):Int),out++ [(b.drop from_).take (i - 1 - from_)])=some (.out (((i+1:Nat):Int),out++ [(b.drop from_).take (i - 1 - from_)])):=by
      unfold kIa
      simp [h6,show ¬(i:Int)+1 < b.length by omega]
     rw [zHa hbd2]
     have e2:b.drop (i+1)= []:=List.drop_of_length_le (by omega)
     simp [e2,fl]
     omega
   ·have hbd:kIa b ((from_:Int),(i:Int),out)=some (.cont ((from_:Int),((i+1:Nat):Int),out)):=by
     unfold kIa
     simp (disch:=omega) only [wGb,Jda,QVa]
     simp (disch:=decide) only [Option.bind_some,v6a,show decide ((i:Int) < b.length)=true by simp;omega,cond_true]
     by_cases a1:b[i]=10
     ·have a2:b[i - 1]≠13:=fun h=> hx ⟨h,a1⟩
      simp [Bool.cond_eq_ite,a1,a2]
     ·simp [Bool.cond_eq_ite,a1]
    rw [zOa hbd,ih (b.length - (i+1)) (by omega) from_ (i+1) _ (by omega) rfl h3 (by omega) h7,e1,Yda hx]
    have e3:(b.drop from_).take (i+1 - 1 - from_)=(b.drop from_).take (i - 1 - from_)++ [b[i - 1]]:=by
     rw [show i+1 - 1 - from_=(i - 1 - from_)+1 by omega,List.take_add_one]
     simp [show from_+(i - 1 - from_)=i - 1 by omega,List.getElem?_eq_getElem (show i - 1 < b.length by omega)]
    have e4:b.drop (i+1 - 1)=b[i]::b.drop (i+1):=by
     rw [show i+1 - 1=i by omega,List.drop_eq_getElem_cons h4]
    rw [e3,e4]
  ·have hbd:kIa b ((from_:Int),(i:Int),out)=some (.out ((from_:Int),out)):=by
    unfold kIa
    simp [h4]
   rw [zHa hbd]
   have e5:fl ((b.drop from_).take (i - 1 - from_)) (b.drop (i - 1))=([],b.drop from_):=by
    by_cases h6:i - 1 < b.length
    ·rw [List.drop_eq_getElem_cons h6,show i - 1+1=b.length by omega]
     simp only [List.drop_length,fl,Prod.mk.injEq,true_and]
     have:=List.take_append_drop (i - 1 - from_) (b.drop from_)
     rw [List.drop_drop,show from_+(i - 1 - from_)=i - 1 by omega,List.drop_eq_getElem_cons h6,show i - 1+1=b.length by omega,List.drop_length] at this
     exact this
    ·rw [show b.drop (i - 1)= [] from List.drop_of_length_le (by omega)]
     simp only [fl,Prod.mk.injEq,true_and]
     exact List.take_of_length_le (by simp;omega)
   rw [e5]
   simp
   omega
theorem w6b (a:List UInt8):a.drop (a.length - (fl [] a).2.length)=(fl [] a).2:=by
 have hj:=qdb a []
 simp only [List.nil_append] at hj
 have hx:a.length - (fl [] a).2.length=((fl [] a).1.flatMap fun x=> x++ [13,10]).length:=by
  have:=congrArg List.length hj
  simp only [List.length_append] at this
  omega
 rw [hx]
 have:=List.drop_left (l₁:=(fl [] a).1.flatMap fun x=> x++ [13,10]) (l₂:=(fl [] a).2)
 rw [hj] at this
 exact this
theorem vAb (b:List UInt8) (hb:b.length < 8796093022208):Vya b=some (fl [] b):=by
 unfold Vya
 have:=Yfa b hb _ 0 1 [] (by omega) rfl (by simp) (by omega) (by omega)
 simp only [List.drop_zero,List.nil_append,Nat.sub_self,List.take_zero] at this
 have e:(((0:Nat):Int),((1:Nat):Int),([]:List Str))=(0,1, []):=rfl
 rw [e] at this
 rw [this]
 simp only [Option.bind_some]
 rw [y3a (by omega),w6b]
 rfl
end Go.Proofs.YtjnmamghadpedaaGreatDoor
