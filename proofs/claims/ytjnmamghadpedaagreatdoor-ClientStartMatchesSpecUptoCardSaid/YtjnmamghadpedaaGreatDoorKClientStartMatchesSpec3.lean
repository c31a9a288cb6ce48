/- Part 3 of the proof of the law ClientStartMatchesSpec: what it needs. -/
import Derived.Test.YtjnmamghadpedaaGreatDoorKClientStartMatchesSpec2
import Derived.Lib.IndexMore
import Derived.Lib.IndexAny
import Derived.Lib.Atoi
import Derived.Lib.Join
import Derived.Lib.Repeat
import Derived.Lib.Split
import Derived.Lib.FieldsP
import Derived.Lib.Strings
import Derived.Lib.ItoaMem
import Derived.Laws.RangeAny
import Derived.Lib.SplitLaws
set_option linter.unusedVariables false
set_option linter.unusedSimpArgs false
namespace Go.Proofs.YtjnmamghadpedaaGreatDoor
open Go.RowKit
set_option maxRecDepth 100000
theorem qIa:yBa Tryz.prog 9 1 cS wQa (fun s=> s.length+1):=opens_S zNa.u (by kernel_rfl)
theorem op_int:yBa Tryz.prog 3 1 cI ok64 (fun _=> 1):=opens_I vLa.u (by kernel_rfl)
theorem Qja:yBa Tryz.prog 85 2 zca.pc zca.ok zca.bk:=⟨by kernel_rfl,fun _=> rfl,fun {H enc W fuel cs d} h=> by
 obtain ⟨xs,n,_,rfl,hl,hlen,hf⟩:=DataW.trod_struct z2a.u h
 have hl2:cs.length=2:=hl.trans (by kernel_rfl)
 match xs,hlen with
 | [y0,y1],_=>
  obtain ⟨x0,r0,o0,b0⟩:=qIa.op (show _=some y0 from hf 0 _ rfl)
  replace r0:RelC W _ (List.take (Tryz.prog.cellsOf 9) (List.drop 0 cs)):=r0
  rw [qIa.cells] at r0
  obtain ⟨x1,r1,o1,b1⟩:=op_int.op (show _=some y1 from hf 1 _ rfl)
  replace r1:RelC W _ (List.take (Tryz.prog.cellsOf 3) (List.drop 1 cs)):=r1
  rw [op_int.cells] at r1
  exact ⟨⟨x0,x1⟩,(vKa (off:=0) rfl r0 (vKa (off:=1) rfl r1 (Kca hl2))),⟨o0,o1⟩,by simp only [List.map,Rows.uptoBulk,Rows.uptoBulkAll,zca.bk];omega⟩⟩
theorem yka:yBa Tryz.prog 22 1 (cL zca.pc) (okL zca.ok) (bkL zca.bk):=Jra Qja rfl zCa.u (by kernel_rfl)
theorem jIa:yBa Tryz.prog 24 3 zxa.pc zxa.ok zxa.bk:=⟨by kernel_rfl,fun _=> rfl,fun {H enc W fuel cs d} h=> by
 obtain ⟨xs,n,_,rfl,hl,hlen,hf⟩:=DataW.trod_struct jGa.u h
 have hl2:cs.length=3:=hl.trans (by kernel_rfl)
 match xs,hlen with
 | [y0,y1,y2],_=>
  obtain ⟨x0,r0,o0,b0⟩:=qIa.op (show _=some y0 from hf 0 _ rfl)
  replace r0:RelC W _ (List.take (Tryz.prog.cellsOf 9) (List.drop 0 cs)):=r0
  rw [qIa.cells] at r0
  obtain ⟨x1,r1,o1,b1⟩:=yka.op (show _=some y1 from hf 1 _ rfl)
  replace r1:RelC W _ (List.take (Tryz.prog.cellsOf 22) (List.drop 1 cs)):=r1
  rw [yka.cells] at r1
  obtain ⟨x2,r2,o2,b2⟩:=qIa.op (show _=some y2 from hf 2 _ rfl)
  replace r2:RelC W _ (List.take (Tryz.prog.cellsOf 9) (List.drop 2 cs)):=r2
  rw [qIa.cells] at r2
  exact ⟨⟨x0,x1,x2⟩,(vKa (off:=0) rfl r0 (vKa (off:=1) rfl r1 (vKa (off:=2) rfl r2 (Kca hl2)))),⟨o0,o1,o2⟩,by simp only [List.map,Rows.uptoBulk,Rows.uptoBulkAll,zxa.bk];omega⟩⟩
theorem Yla:yBa Tryz.prog 88 2 zfa.pc zfa.ok zfa.bk:=⟨by kernel_rfl,fun _=> rfl,fun {H enc W fuel cs d} h=> by
 obtain ⟨xs,n,_,rfl,hl,hlen,hf⟩:=DataW.trod_struct k0a.u h
 have hl2:cs.length=2:=hl.trans (by kernel_rfl)
 match xs,hlen with
 | [y0,y1],_=>
  obtain ⟨x0,r0,o0,b0⟩:=qIa.op (show _=some y0 from hf 0 _ rfl)
  replace r0:RelC W _ (List.take (Tryz.prog.cellsOf 9) (List.drop 0 cs)):=r0
  rw [qIa.cells] at r0
  obtain ⟨x1,r1,o1,b1⟩:=qIa.op (show _=some y1 from hf 1 _ rfl)
  replace r1:RelC W _ (List.take (Tryz.prog.cellsOf 9) (List.drop 1 cs)):=r1
  rw [qIa.cells] at r1
  exact ⟨⟨x0,x1⟩,(vKa (off:=0) rfl r0 (vKa (off:=1) rfl r1 (Kca hl2))),⟨o0,o1⟩,by simp only [List.map,Rows.uptoBulk,Rows.uptoBulkAll,zfa.bk];omega⟩⟩
theorem Zsa:yBa Tryz.prog 25 1 (cL zfa.pc) (okL zfa.ok) (bkL zfa.bk):=Jra Yla rfl kxa.u (by kernel_rfl)
theorem op_uint8:yBa Tryz.prog 5 1 cU (fun _=> True) (fun _=> 1):=opens_U zua.u (by kernel_rfl)
theorem VUa:yBa Tryz.prog 26 1 (cL cU) (okL (fun _=> True)) (bkL (fun _=> 1)):=Jra op_uint8 rfl zha.u (by kernel_rfl)
theorem Zta:yBa Tryz.prog 28 2 zqa.pc zqa.ok zqa.bk:=⟨by kernel_rfl,fun _=> rfl,fun {H enc W fuel cs d} h=> by
 obtain ⟨xs,n,_,rfl,hl,hlen,hf⟩:=DataW.trod_struct k4a.u h
 have hl2:cs.length=2:=hl.trans (by kernel_rfl)
 match xs,hlen with
 | [y0,y1],_=>
  obtain ⟨x0,r0,o0,b0⟩:=Zsa.op (show _=some y0 from hf 0 _ rfl)
  replace r0:RelC W _ (List.take (Tryz.prog.cellsOf 25) (List.drop 0 cs)):=r0
  rw [Zsa.cells] at r0
  obtain ⟨x1,r1,o1,b1⟩:=VUa.op (show _=some y1 from hf 1 _ rfl)
  replace r1:RelC W _ (List.take (Tryz.prog.cellsOf 26) (List.drop 1 cs)):=r1
  rw [VUa.cells] at r1
  exact ⟨⟨x0,x1⟩,(vKa (off:=0) rfl r0 (vKa (off:=1) rfl r1 (Kca hl2))),⟨o0,o1⟩,by simp only [List.map,Rows.uptoBulk,Rows.uptoBulkAll,zqa.bk];omega⟩⟩
theorem Jxa:yBa Tryz.prog 30 5 zVa.pc zVa.ok zVa.bk:=⟨by kernel_rfl,fun _=> rfl,fun {H enc W fuel cs d} h=> by
 obtain ⟨xs,n,_,rfl,hl,hlen,hf⟩:=DataW.trod_struct ZLa.u h
 have hl2:cs.length=5:=hl.trans (by kernel_rfl)
 match xs,hlen with
 | [y0,y1],_=>
  obtain ⟨x0,r0,o0,b0⟩:=jIa.op (show _=some y0 from hf 0 _ rfl)
  replace r0:RelC W _ (List.take (Tryz.prog.cellsOf 24) (List.drop 0 cs)):=r0
  rw [jIa.cells] at r0
  obtain ⟨x1,r1,o1,b1⟩:=Zta.op (show _=some y1 from hf 1 _ rfl)
  replace r1:RelC W _ (List.take (Tryz.prog.cellsOf 28) (List.drop 3 cs)):=r1
  rw [Zta.cells] at r1
  exact ⟨⟨x0,x1⟩,(vKa (off:=0) rfl r0 (vKa (off:=3) rfl r1 (Kca hl2))),⟨o0,o1⟩,by simp only [List.map,Rows.uptoBulk,Rows.uptoBulkAll,zVa.bk];omega⟩⟩
theorem op_bool:yBa Tryz.prog 4 1 cB (fun _=> True) (fun _=> 1):=opens_B WCa.u (by kernel_rfl)
end Go.Proofs.YtjnmamghadpedaaGreatDoor
namespace Go.Proofs.YtjnmamghadpedaaGreatDoor
open Go.RowKit
set_option maxRecDepth 100000
set_option maxHeartbeats 40000000
def R_In (a0:Int) (a1:Int) (a2:Int):Option Bool:=
 ((bif decide (a1≤a0) then some (decide (a0≤a2)) else some false):Option Bool).bind fun (j1:Bool)=> some j1
def R_At (a0:Int) (a1:Int):Option zra:=
 some ((zra.mk a0 a1))
def qba (a0:UInt8):Option Bool:=
 ((R_In ((a0.toNat:Int)) 97 122).bind fun v2=> (bif v2 then some true else (R_In ((a0.toNat:Int)) 65 90).bind fun v5=> (bif v5 then some true else (R_In ((a0.toNat:Int)) 48 57).bind fun v8=> some v8)):Option Bool).bind fun (j1:Bool)=> some j1
def Kea (a0:Str) (s1:Int):Option (Step Int (Unit ⊕ Int)):=
 (bif decide (s1 < (a0.length:Int)) then (idx a0 s1).bind fun v7=> (bif ((v7.toNat:Int)==64) then some (.out (.inr s1)) else some (.cont (w64 (s1+1)))) else some (.out (.inl (()))))
noncomputable def Yma (a0:Str):Option Int:=
 (iter (Kea a0) 0).bind (Sum.elim (fun b2=> some ((a0.length:Int))) (fun b3=> some b3))
def qpa (a0:Str) (s1:Int):Option (Step Int (Unit ⊕ Bool)):=
 (bif decide (s1 < (a0.length:Int)) then (idx a0 s1).bind fun v7=> ((idx a0 s1).bind fun v10=> (bif ((v10.toNat:Int)==46) then (bif (s1==0) then some true else (bif (s1==(w64 ((a0.length:Int) - 1))) then some true else (idx a0 ((w64 (s1 - 1)))).bind fun v15=> some (((v15.toNat:Int)==46)))) else some false):Option Bool).bind fun (j9:Bool)=> (bif j9 then some (.out (.inr false)) else ((R_In ((v7.toNat:Int)) 97 122).bind fun v19=> (bif (!v19) then (R_In ((v7.toNat:Int)) 48 57).bind fun v22=> (bif (!v22) then (idx a0 s1).bind fun v25=> (bif ((v25.toNat:Int) !=45) then (idx a0 s1).bind fun v28=> some (((v28.toNat:Int) !=46)) else some false) else some false) else some false):Option Bool).bind fun (j18:Bool)=> (bif j18 then some (.out (.inr false)) else some (.cont (w64 (s1+1))))) else some (.out (.inl (()))))
noncomputable def yCa (a0:Str):Option Bool:=
 (iter (qpa a0) 0).bind (Sum.elim (fun b2=> (R_In ((a0.length:Int)) 1 60).bind fun v31=> some v31) (fun b3=> some b3))
def q6a (a0:Str) (v1:Int) (s3:Int):Option (Step Int (Unit ⊕ Bool)):=
 (bif decide (s3 < v1) then (idx a0 s3).bind fun v9=> ((qba v9).bind fun v12=> (bif (!v12) then (bif ((v9.toNat:Int) !=45) then (bif ((v9.toNat:Int) !=95) then (bif ((v9.toNat:Int) !=46) then (bif ((v9.toNat:Int) !=43) then some (((v9.toNat:Int) !=61)) else some false) else some false) else some false) else some false) else some false):Option Bool).bind fun (j11:Bool)=> (bif j11 then some (.out (.inr false)) else some (.cont (w64 (s3+1)))) else some (.out (.inl (()))))
noncomputable def v4a (a0:Str):Option Bool:=
 (Yma a0).bind fun v1=> (iter (q6a a0 v1) 0).bind (Sum.elim (fun b4=> ((R_In v1 1 60).bind fun v21=> (bif v21 then (bif decide (v1 < (a0.length:Int)) then (cut a0 ((w64 (v1+1))) ((a0.length:Int))).bind fun v25=> (yCa v25).bind fun v27=> some v27 else some false) else some false):Option Bool).bind fun (j20:Bool)=> some j20) (fun b5=> some b5))
def zpa (a0:Int) (a1:Int):Option zra:=
 some ((zra.mk a0 a1))
def zUa:Option zra:=
 some ((zra.mk 0 0))
def z8a (a0:zra):Option Bool:=
 some ((a0.Code !=0))
def vva (a0:UInt8):Option Bool:=
 ((bif decide (97≤(a0.toNat:Int)) then (bif decide ((a0.toNat:Int)≤122) then some true else (bif decide (65≤(a0.toNat:Int)) then (bif decide ((a0.toNat:Int)≤90) then some true else (bif decide (48≤(a0.toNat:Int)) then some (decide ((a0.toNat:Int)≤57)) else some false)) else (bif decide (48≤(a0.toNat:Int)) then some (decide ((a0.toNat:Int)≤57)) else some false))) else (bif decide (65≤(a0.toNat:Int)) then (bif decide ((a0.toNat:Int)≤90) then some true else (bif decide (48≤(a0.toNat:Int)) then some (decide ((a0.toNat:Int)≤57)) else some false)) else (bif decide (48≤(a0.toNat:Int)) then some (decide ((a0.toNat:Int)≤57)) else some false))):Option Bool).bind fun (j1:Bool)=> some j1
def qJa (a0:List UInt8) (a1:List UInt8):Option Bool:=
 some ((a0==a1))
def kPa (a0:List UInt8) (a1:List UInt8):Option Bool:=
 ((bif decide ((a1.length:Int)≤(a0.length:Int)) then (cut a0 0 ((a1.length:Int))).bind fun v3=> (qJa v3 a1).bind fun v5=> some v5 else some false):Option Bool).bind fun (j1:Bool)=> some j1
def kAa (a0:List UInt8) (a1:List UInt8):Option Bool:=
 ((bif decide ((a1.length:Int)≤(a0.length:Int)) then (cut a0 ((w64 ((a0.length:Int) - (a1.length:Int)))) ((a0.length:Int))).bind fun v3=> (qJa v3 a1).bind fun v5=> some v5 else some false):Option Bool).bind fun (j1:Bool)=> some j1
end Go.Proofs.YtjnmamghadpedaaGreatDoor
namespace Go.Proofs.YtjnmamghadpedaaGreatDoor
open Go.RowKit
def qKa (a b:List UInt8):Option Int:=if a.length < 4294967281∧b.length=2 then some (Lib.index a b) else none
def zRa (s:Str) (c:UInt8):Option Int:=some (Lib.indexByte s c)
def kEa (s t:Str):Option Bool:=if s.length < 4294967281 then some (Lib.contains s t) else none
def vqa (s t:Str):Option (Str × Str × Bool):=if s.length < 4294967281 then some (Lib.cut s t) else none
end Go.Proofs.YtjnmamghadpedaaGreatDoor
namespace Go.Proofs.YtjnmamghadpedaaGreatDoor
open Go.RowKit
set_option maxRecDepth 100000
set_option maxHeartbeats 40000000
def kpa (a0:Int):Option Bool:=
 ((bif decide (0≤a0) then some (decide (a0 < 55296)) else some false):Option Bool).bind fun (j1:Bool)=> (bif j1 then some true else ((bif decide (57343 < a0) then some (decide (a0≤1114111)) else some false):Option Bool).bind fun (j4:Bool)=> (bif j4 then some true else some false))
def k6a (a0:Str) (s7:Nat):Option (Step Nat (Unit ⊕ Int)):=
 (bif decide (s7 < a0.length) then (bif ((Zqa a0 s7)==65533) then some (.out (.inr (((s7:Nat):Int)))) else some (.cont (s7+yAa a0 s7))) else some (.out (.inl (()))))
def wva (a0:Str) (a1:Int) (j23:Int × Int) (s36:Int):Option (Step Int Unit):=
 (bif decide (s36 < (((wha a1)).length:Int)) then (idx a0 ((w64 (j23.2 - s36)))).bind fun v40=> (idx ((wha a1)) ((w64 (j23.1 - s36)))).bind fun v42=> (bif ((v40.toNat:Int) !=(v42.toNat:Int)) then none else some (.cont (w64 (s36+1)))) else some (.out (())))
noncomputable def k7a (a0:Str) (a1:Int) (j23:Int × Int):Option (Step Int (Unit ⊕ Int)):=
 (iter (wva a0 a1 j23) 1).bind fun b37=> some (.out (.inr ((w64 (j23.2 - j23.1)))))
noncomputable def k8a (a0:Str) (a1:Int) (s17:Int):Option (Step Int (Unit ⊕ Int)):=
 (bif decide (s17 < (a0.length:Int)) then (idx a0 s17).bind fun v24=> (idx ((wha a1)) ((w64 ((((wha a1)).length:Int) - 1)))).bind fun v26=> (bif ((v24.toNat:Int) !=(v26.toNat:Int)) then (cut a0 ((w64 (s17+1))) ((a0.length:Int))).bind fun v29=> (idx ((wha a1)) ((w64 ((((wha a1)).length:Int) - 1)))).bind fun v31=> (zRa v29 v31).bind fun v33=> (bif decide (v33 < 0) then some (.out (.inr ((-1)))) else (k7a a0 a1 ((w64 ((((wha a1)).length:Int) - 1)),(w64 (s17+(w64 (v33+1))))))) else (k7a a0 a1 ((w64 ((((wha a1)).length:Int) - 1)),s17))) else some (.out (.inl (()))))
noncomputable def kha (a0:Str) (a1:Int):Option Int:=
 ((bif decide (0≤a1) then some (decide (a1 < 128)) else some false):Option Bool).bind fun (j1:Bool)=> (bif j1 then (zRa a0 ((toU8 a1))).bind fun v4=> some v4 else (bif (a1==65533) then (iter (k6a a0) 0).bind (Sum.elim (fun b8=> some ((-1))) (fun b9=> some b9)) else (kpa a1).bind fun v14=> (bif (!v14) then some ((-1)) else (iter (k8a a0 a1) ((w64 ((((wha a1)).length:Int) - 1)))).bind (Sum.elim (fun b18=> some ((-1))) (fun b19=> some b19)))))
def zJa (a0:Int):Option Bool:=
 some (decide (8 < a0))
noncomputable def k9a (a0:Str) (a1:Str) (s12:Nat):Option (Step Nat (Unit ⊕ Int)):=
 (bif decide (s12 < a0.length) then (kha a1 ((Zqa a0 s12))).bind fun v18=> (bif decide (0≤v18) then some (.out (.inr (((s12:Nat):Int)))) else some (.cont (s12+yAa a0 s12))) else some (.out (.inl (()))))
noncomputable def qXa (a0:Str) (a1:Str):Option Int:=
 (bif (a1==([]:Str)) then some ((-1)) else (bif ((a1.length:Int)==1) then (idx a1 0).bind fun v3=> ((bif decide (128≤(v3.toNat:Int)) then some 65533 else some ((v3.toNat:Int))):Option Int).bind fun (j5:Int)=> (kha a0 j5).bind fun v7=> some v7 else (zJa ((a0.length:Int))).bind fun v9=> (bif v9 then none else (iter (k9a a0 a1) 0).bind (Sum.elim (fun b13=> some ((-1))) (fun b14=> some b14)))))
end Go.Proofs.YtjnmamghadpedaaGreatDoor
namespace Go.Proofs.YtjnmamghadpedaaGreatDoor
open Go.RowKit
def VVa (t:Str):Bool:=t.all fun c=> decide (c.toNat < 128)
def kWa (s t:Str):Option Int:=if s.length < 4294967281∧t.length < 4294967281∧2≤t.length∧VVa t=true then some (Lib.indexAny s t) else none
end Go.Proofs.YtjnmamghadpedaaGreatDoor
namespace Go.Proofs.YtjnmamghadpedaaGreatDoor
open Go.RowKit
set_option maxRecDepth 100000
set_option maxHeartbeats 40000000
def kJa (a0:List UInt8) (s11:Int × (List UInt8)):Option (Step (Int × (List UInt8)) (List UInt8)):=
 (cut a0 s11.1 ((a0.length:Int))).bind fun v14=> (qKa v14 (([(13:UInt8),(10:UInt8)]:List UInt8))).bind fun v16=> ((bif decide (v16 < 0) then some ((true,s11.2)) else (cut a0 s11.1 ((w64 (s11.1+v16)))).bind fun v20=> ((kPa v20 (([(46:UInt8)]:List UInt8))).bind fun v23=> (bif v23 then (app 140737488355328 s11.2 (([(46:UInt8)]:List UInt8))).bind fun v26=> some v26 else some s11.2):Option (List UInt8)).bind fun (j22:List UInt8)=> (app 140737488355328 j22 v20).bind fun v28=> (app 140737488355328 v28 (([13,10]:Str))).bind fun v30=> some ((false,v30))):Option (Bool × (List UInt8))).bind fun (j18:Bool × (List UInt8))=> (bif j18.1 then some (.out j18.2) else some (.cont ((w64 (s11.1+(w64 (v16+2)))),j18.2)))
noncomputable def vra (a0:List UInt8):Option ((List UInt8) × zra):=
 (bif decide (12000 < (a0.length:Int)) then (zpa 1 ((-1))).bind fun v2=> some ((([]:List UInt8),v2)) else ((bif decide (0 < (a0.length:Int)) then (kAa a0 (([(13:UInt8),(10:UInt8)]:List UInt8))).bind fun v6=> some ((!v6)) else some false):Option Bool).bind fun (j4:Bool)=> (bif j4 then (zpa 5 ((-2))).bind fun v9=> some ((([]:List UInt8),v9)) else (iter (kJa a0) ((0,([]:List UInt8)))).bind fun b12=> (app 140737488355328 b12 (([46,13,10]:Str))).bind fun v33=> (zUa).bind fun v35=> some ((v33,v35))))
end Go.Proofs.YtjnmamghadpedaaGreatDoor
namespace Go.Proofs.YtjnmamghadpedaaGreatDoor
open Go.RowKit
set_option maxRecDepth 100000
set_option maxHeartbeats 40000000
end Go.Proofs.YtjnmamghadpedaaGreatDoor
namespace Go.Proofs.YtjnmamghadpedaaGreatDoor
open Go.RowKit
set_option maxRecDepth 100000
set_option maxHeartbeats 40000000
end Go.Proofs.YtjnmamghadpedaaGreatDoor
namespace Go.Proofs.YtjnmamghadpedaaGreatDoor
open Go.RowKit
set_option maxRecDepth 100000
set_option maxHeartbeats 40000000
def z9a (a0:Str) (a1:Str):Option Bool:=
 ((bif decide ((a1.length:Int)≤(a0.length:Int)) then (cut a0 0 ((a1.length:Int))).bind fun v3=> some ((v3==a1)) else some false):Option Bool).bind fun (j1:Bool)=> some j1
def ksa (a0:Str) (a1:Str):Option Bool:=
 (z9a a0 a1).bind fun v1=> some v1
def kaa (a0:Str) (a1:Str):Option Bool:=
 ((bif decide ((a1.length:Int)≤(a0.length:Int)) then (cut a0 ((w64 ((a0.length:Int) - (a1.length:Int)))) ((a0.length:Int))).bind fun v3=> some ((v3==a1)) else some false):Option Bool).bind fun (j1:Bool)=> some j1
def kta (a0:Str) (a1:Str):Option Bool:=
 (kaa a0 a1).bind fun v1=> some v1
def k1a (a0:Str) (s5:Int):Option (Step Int (Unit ⊕ Unit)):=
 (bif decide (s5 < (a0.length:Int)) then (idx a0 s5).bind fun v11=> ((bif decide (97≤(v11.toNat:Int)) then (bif decide ((v11.toNat:Int)≤122) then some true else (bif decide (48≤(v11.toNat:Int)) then (bif decide ((v11.toNat:Int)≤57) then some true else (bif ((v11.toNat:Int)==45) then some true else some (((v11.toNat:Int)==46)))) else (bif ((v11.toNat:Int)==45) then some true else some (((v11.toNat:Int)==46))))) else (bif decide (48≤(v11.toNat:Int)) then (bif decide ((v11.toNat:Int)≤57) then some true else (bif ((v11.toNat:Int)==45) then some true else some (((v11.toNat:Int)==46)))) else (bif ((v11.toNat:Int)==45) then some true else some (((v11.toNat:Int)==46))))):Option Bool).bind fun (j13:Bool)=> (bif (!j13) then some (.out (.inr (()))) else some (.cont (w64 (s5+1)))) else some (.out (.inl (()))))
noncomputable def qLa (a0:Str):Option Bool:=
 ((bif (a0 !=([]:Str)) then (bif decide ((a0.length:Int)≤60) then ((iter (k1a a0) 0).bind (Sum.elim (fun b6=> some true) (fun b7=> some false)):Option Bool).bind fun (j4:Bool)=> (bif j4 then (ksa a0 (([46]:Str))).bind fun v26=> (bif (!v26) then (kta a0 (([46]:Str))).bind fun v29=> (bif (!v29) then (kEa a0 (([46,46]:Str))).bind fun v32=> some ((!v32)) else some false) else some false) else some false) else some false) else some false):Option Bool).bind fun (j1:Bool)=> some j1
def qca (v1:Str × Str × Bool) (s8:Int):Option (Step Int (Unit ⊕ Unit)):=
 (bif decide (s8 < (v1.1.length:Int)) then (idx v1.1 s8).bind fun v14=> ((vva v14).bind fun v17=> (bif v17 then some true else (zRa (([45,95,46,43,61]:Str)) v14).bind fun v20=> some (decide (0≤v20))):Option Bool).bind fun (j16:Bool)=> (bif (!j16) then some (.out (.inr (()))) else some (.cont (w64 (s8+1)))) else some (.out (.inl (()))))
noncomputable def q7a (a0:Str):Option (Str × Str × Bool):=
 (vqa a0 (([64]:Str))).bind fun v1=> ((bif v1.2.2 then (bif (v1.1 !=([]:Str)) then (bif decide ((v1.1.length:Int)≤60) then ((iter (qca v1) 0).bind (Sum.elim (fun b9=> some true) (fun b10=> some false)):Option Bool).bind fun (j7:Bool)=> (bif j7 then (qLa v1.2.1).bind fun v24=> some v24 else some false) else some false) else some false) else some false):Option Bool).bind fun (j3:Bool)=> some ((v1.1,v1.2.1,j3))
noncomputable def kFa (a0:Str):Option Bool:=
 (q7a a0).bind fun v1=> some v1.2.2
end Go.Proofs.YtjnmamghadpedaaGreatDoor
namespace Go.Proofs.YtjnmamghadpedaaGreatDoor
open Go.RowKit
set_option maxRecDepth 100000
set_option maxHeartbeats 40000000
end Go.Proofs.YtjnmamghadpedaaGreatDoor
namespace Go.Proofs.YtjnmamghadpedaaGreatDoor
open Go.RowKit
set_option maxRecDepth 100000
set_option maxHeartbeats 40000000
def y2a (a0:Str) (s1:Int):Option (Step Int (Unit ⊕ Bool)):=
 (bif decide (s1 < (a0.length:Int)) then ((idx a0 s1).bind fun v8=> (qba v8).bind fun v10=> (bif (!v10) then (idx a0 s1).bind fun v13=> (bif ((v13.toNat:Int) !=45) then (idx a0 s1).bind fun v16=> (bif ((v16.toNat:Int) !=95) then (idx a0 s1).bind fun v19=> some (((v19.toNat:Int) !=46)) else some false) else some false) else some false):Option Bool).bind fun (j7:Bool)=> (bif j7 then some (.out (.inr false)) else some (.cont (w64 (s1+1)))) else some (.out (.inl (()))))
noncomputable def j6a (a0:Str):Option Bool:=
 (iter (y2a a0) 0).bind (Sum.elim (fun b2=> (R_In ((a0.length:Int)) 1 60).bind fun v22=> some v22) (fun b3=> some b3))
def j7a (a0:List zca) (a1:Str) (s1:Int):Option (Step Int (Unit ⊕ Int)):=
 (bif decide (s1 < (a0.length:Int)) then (idx a0 s1).bind fun v7=> (bif (v7.Address==a1) then some (.out (.inr s1)) else some (.cont (w64 (s1+1)))) else some (.out (.inl (()))))
noncomputable def QNa (a0:List zca) (a1:Str):Option Int:=
 (iter (j7a a0 a1) 0).bind (Sum.elim (fun b2=> some ((-1))) (fun b3=> some b3))
noncomputable def k2a (a0:zxa) (s20:Int):Option (Step Int (Unit ⊕ zra)):=
 (bif decide (s20 < (a0.To.length:Int)) then (idx a0.To s20).bind fun v26=> (v4a v26.Address).bind fun v28=> (bif (!v28) then (R_At 10 s20).bind fun v31=> some (.out (.inr v31)) else (idx a0.To s20).bind fun v33=> (R_In v33.Notify 0 7).bind fun v35=> (bif (!v35) then (R_At 3 s20).bind fun v38=> some (.out (.inr v38)) else (cut a0.To 0 s20).bind fun v40=> (idx a0.To s20).bind fun v42=> (QNa v40 v42.Address).bind fun v44=> (bif decide (0≤v44) then (R_At 7 s20).bind fun v47=> some (.out (.inr v47)) else some (.cont (w64 (s20+1)))))) else some (.out (.inl (()))))
noncomputable def qMa (a0:zxa):Option zra:=
 ((bif (a0.From !=([]:Str)) then (v4a a0.From).bind fun v3=> some ((!v3)) else some false):Option Bool).bind fun (j1:Bool)=> (bif j1 then (R_At 10 ((-10))).bind fun v6=> some v6 else (R_In ((a0.To.length:Int)) 1 60).bind fun v8=> (bif (!v8) then (R_At 2 ((-11))).bind fun v11=> some v11 else ((bif (a0.Id !=([]:Str)) then (j6a a0.Id).bind fun v15=> some ((!v15)) else some false):Option Bool).bind fun (j13:Bool)=> (bif j13 then (R_At 10 ((-12))).bind fun v18=> some v18 else (iter (k2a a0) 0).bind (Sum.elim (fun b21=> some ((zra.mk 0 0))) (fun b22=> some b22)))))
def vMa (a0:Str) (s5:Int):Option (Step Int (Unit ⊕ Unit)):=
 (bif decide (s5 < (a0.length:Int)) then (idx a0 s5).bind fun v11=> ((vva v11).bind fun v14=> (bif v14 then some true else (bif ((v11.toNat:Int)==45) then some true else (bif ((v11.toNat:Int)==95) then some true else some (((v11.toNat:Int)==46))))):Option Bool).bind fun (j13:Bool)=> (bif (!j13) then some (.out (.inr (()))) else some (.cont (w64 (s5+1)))) else some (.out (.inl (()))))
noncomputable def v5a (a0:Str):Option Bool:=
 ((bif (a0 !=([]:Str)) then (bif decide ((a0.length:Int)≤60) then ((iter (vMa a0) 0).bind (Sum.elim (fun b6=> some true) (fun b7=> some false)):Option Bool).bind fun (j4:Bool)=> some j4 else some false) else some false):Option Bool).bind fun (j1:Bool)=> some j1
def qda (a0:Int):Option Bool:=
 ((bif decide (0≤a0) then some (decide (a0≤7)) else some false):Option Bool).bind fun (j1:Bool)=> some j1
def kqa (v7:zca) (v19:List zca) (s22:Int):Option (Step Int (Unit ⊕ Int)):=
 (bif decide (s22 < (v19.length:Int)) then (idx v19 s22).bind fun v28=> (bif (v28.Address==v7.Address) then some (.out (.inr s22)) else some (.cont (w64 (s22+1)))) else some (.out (.inl (()))))
noncomputable def kSa (a0:List zca) (s1:Int):Option (Step Int (Unit ⊕ zra)):=
 (bif decide (s1 < (a0.length:Int)) then (idx a0 s1).bind fun v7=> (kFa v7.Address).bind fun v9=> (bif (!v9) then (zpa 10 s1).bind fun v12=> some (.out (.inr v12)) else (qda v7.Notify).bind fun v14=> (bif (!v14) then (zpa 3 s1).bind fun v17=> some (.out (.inr v17)) else (cut a0 0 s1).bind fun v19=> ((iter (kqa v7 v19) 0).bind (Sum.elim (fun b23=> some ((-1))) (fun b24=> some b24)):Option Int).bind fun (j21:Int)=> (bif decide (0≤j21) then (zpa 7 s1).bind fun v32=> some (.out (.inr v32)) else some (.cont (w64 (s1+1)))))) else some (.out (.inl (()))))
noncomputable def kQa (a0:List zca):Option zra:=
 (iter (kSa a0) 0).bind (Sum.elim (fun b2=> (zUa).bind fun v34=> some v34) (fun b3=> some b3))
noncomputable def qea (a0:zxa):Option zra:=
 ((bif (a0.From !=([]:Str)) then (kFa a0.From).bind fun v3=> some ((!v3)) else some false):Option Bool).bind fun (j1:Bool)=> (bif j1 then (zpa 10 ((-10))).bind fun v6=> some v6 else ((bif decide ((a0.To.length:Int) < 1) then some true else some (decide (60 < (a0.To.length:Int)))):Option Bool).bind fun (j8:Bool)=> (bif j8 then (zpa 2 ((-11))).bind fun v11=> some v11 else ((bif (a0.Id !=([]:Str)) then (v5a a0.Id).bind fun v15=> some ((!v15)) else some false):Option Bool).bind fun (j13:Bool)=> (bif j13 then (zpa 10 ((-12))).bind fun v18=> some v18 else (kQa a0.To).bind fun v20=> some v20)))
end Go.Proofs.YtjnmamghadpedaaGreatDoor
namespace Go.Proofs.YtjnmamghadpedaaGreatDoor
open Go.RowKit
set_option maxRecDepth 100000
set_option maxHeartbeats 40000000
def zDa (a0:Str) (a1:Str):Option Bool:=
 (kWa a0 a1).bind fun v1=> some (decide (0≤v1))
def wia (a0:Str) (s5:Int):Option (Step Int (Unit ⊕ Unit)):=
 (bif decide (s5 < (a0.length:Int)) then (idx a0 s5).bind fun v11=> ((bif decide (33≤(v11.toNat:Int)) then (bif decide ((v11.toNat:Int)≤126) then some (((v11.toNat:Int) !=58)) else some false) else some false):Option Bool).bind fun (j13:Bool)=> (bif (!j13) then some (.out (.inr (()))) else some (.cont (w64 (s5+1)))) else some (.out (.inl (()))))
noncomputable def jJa (a0:Str):Option Bool:=
 ((bif (a0 !=([]:Str)) then (bif decide ((a0.length:Int)≤60) then ((iter (wia a0) 0).bind (Sum.elim (fun b6=> some true) (fun b7=> some false)):Option Bool).bind fun (j4:Bool)=> some j4 else some false) else some false):Option Bool).bind fun (j1:Bool)=> some j1
def jKa (a0:Str):Option Bool:=
 (zDa a0 (([13,10,0]:Str))).bind fun v1=> some v1
def qNa (a0:UInt8):Option Bool:=
 ((bif ((a0.toNat:Int)==32) then some true else some (((a0.toNat:Int)==9))):Option Bool).bind fun (j1:Bool)=> some j1
def yDa (a0:Str):Option Bool:=
 ((jKa a0).bind fun v2=> (bif (!v2) then (bif (a0==([]:Str)) then some true else (idx a0 0).bind fun v6=> (qNa v6).bind fun v8=> (bif (!v8) then (idx a0 ((w64 ((a0.length:Int) - 1)))).bind fun v11=> (qNa v11).bind fun v13=> some ((!v13)) else some false)) else some false):Option Bool).bind fun (j1:Bool)=> some j1
def qqa (s1:Int × Int) (j5:Int):Option (Step (Int × Int) Int):=
 some (.cont (j5,(w64 (s1.2+1))))
def wBa (a0:Str) (s1:Int × Int):Option (Step (Int × Int) Int):=
 (bif decide (s1.2 < (a0.length:Int)) then ((idx a0 s1.2).bind fun v7=> (qNa v7).bind fun v9=> (bif (!v9) then some true else (idx a0 ((w64 (s1.2 - 1)))).bind fun v12=> (qNa v12).bind fun v14=> some v14):Option Bool).bind fun (j6:Bool)=> (bif j6 then (qqa s1 s1.1) else ((bif decide (0 < s1.1) then some (decide (78 < s1.2)) else some false):Option Bool).bind fun (j17:Bool)=> (bif j17 then some (.out s1.1) else (qqa s1 s1.2))) else some (.out s1.1))
noncomputable def yEa (a0:Str) (a1:Int):Option Int:=
 (iter (wBa a0) ((0,(max a1 1)))).bind fun b2=> some b2
noncomputable def wja (s18:Str × Int × (List Str)):Option (Step (Str × Int × (List Str)) (Str × (List Str))):=
 (bif decide (78 < (s18.1.length:Int)) then (yEa s18.1 s18.2.1).bind fun v22=> (bif (v22==0) then some (.out ((s18.1,s18.2.2))) else (cut s18.1 0 v22).bind fun v25=> (app 8796093022208 s18.2.2 (([v25]:List Str))).bind fun v27=> (cut s18.1 v22 ((s18.1.length:Int))).bind fun v29=> some (.cont (v29,0,v27))) else some (.out ((s18.1,s18.2.2))))
def yla (v31:List Str) (s34:Int):Option (Step Int (Unit ⊕ ((List Str) × zra))):=
 (bif decide (s34 < (v31.length:Int)) then (idx v31 s34).bind fun v40=> (bif decide (998 < (v40.length:Int)) then (zpa 1 s34).bind fun v43=> some (.out (.inr (([],v43)))) else some (.cont (w64 (s34+1)))) else some (.out (.inl (()))))
noncomputable def yFa (a0:Str) (a1:Str):Option ((List Str) × zra):=
 (jJa a0).bind fun v1=> (bif (!v1) then (zpa 10 ((-1))).bind fun v4=> some (([],v4)) else (bif decide (4000 < (a1.length:Int)) then (zpa 1 ((-1))).bind fun v7=> some (([],v7)) else (yDa a1).bind fun v9=> (bif (!v9) then (zpa 11 ((-1))).bind fun v12=> some (([],v12)) else (cat a0 (([58,32]:Str))).bind fun v14=> (cat v14 a1).bind fun v16=> (iter (wja) ((v16,(w64 ((a0.length:Int)+2)),([]:List Str)))).bind fun b19=> (app 8796093022208 b19.2 (([b19.1]:List Str))).bind fun v31=> (iter (yla v31) 0).bind (Sum.elim (fun b35=> (zUa).bind fun v45=> some ((v31,v45))) (fun b36=> some ((b36.1,b36.2)))))))
end Go.Proofs.YtjnmamghadpedaaGreatDoor
namespace Go.Proofs.YtjnmamghadpedaaGreatDoor
open Go.RowKit
set_option maxRecDepth 100000
set_option maxHeartbeats 40000000
noncomputable def qCa (a0:List zfa) (s4:Int):Option (Step Int (Unit ⊕ zra)):=
 (bif decide (s4 < (a0.length:Int)) then (idx a0 s4).bind fun v10=> (yFa v10.Name v10.Value).bind fun v12=> (z8a v12.2).bind fun v14=> (bif v14 then (zpa v12.2.Code s4).bind fun v17=> some (.out (.inr v17)) else some (.cont (w64 (s4+1)))) else some (.out (.inl (()))))
noncomputable def qOa (a0:List zfa):Option zra:=
 (bif decide (60 < (a0.length:Int)) then (zpa 2 ((-1))).bind fun v2=> some v2 else (iter (qCa a0) 0).bind (Sum.elim (fun b5=> (zUa).bind fun v19=> some v19) (fun b6=> some b6)))
def qua (v7:(List Str) × zra) (s9:Int × (List UInt8)):Option (Step (Int × (List UInt8)) (List UInt8)):=
 (bif decide (s9.1 < (v7.1.length:Int)) then (idx v7.1 s9.1).bind fun v13=> (app 140737488355328 s9.2 v13).bind fun v15=> (app 140737488355328 v15 (([(13:UInt8),(10:UInt8)]:List UInt8))).bind fun v17=> some (.cont ((w64 (s9.1+1)),v17)) else some (.out s9.2))
noncomputable def qva (a0:zqa) (s1:Int × (List UInt8)):Option (Step (Int × (List UInt8)) (List UInt8)):=
 (bif decide (s1.1 < (a0.Fields.length:Int)) then (idx a0.Fields s1.1).bind fun v5=> (yFa v5.Name v5.Value).bind fun v7=> (iter (qua v7) ((0,s1.2))).bind fun b10=> some (.cont ((w64 (s1.1+1)),b10)) else some (.out s1.2))
noncomputable def qYa (a0:zqa):Option (List UInt8):=
 (iter (qva a0) ((0,([]:List UInt8)))).bind fun b2=> (app 140737488355328 b2 (([(13:UInt8),(10:UInt8)]:List UInt8))).bind fun v19=> (app 140737488355328 v19 a0.Body).bind fun v21=> some v21
def vNa (j7:Int × Int):Option (Step (Int × Int) (Unit ⊕ Int)):=
 some (.cont (j7.1,(w64 (j7.2+1))))
def qZa (a0:List UInt8) (s1:Int × Int):Option (Step (Int × Int) (Unit ⊕ Int)):=
 (bif decide (s1.2 < (a0.length:Int)) then (idx a0 s1.2).bind fun v8=> ((bif ((v8.toNat:Int)==13) then (bif decide ((w64 (s1.2+1)) < (a0.length:Int)) then (idx a0 ((w64 (s1.2+1)))).bind fun v13=> some (((v13.toNat:Int)==10)) else some false) else some false):Option Bool).bind fun (j10:Bool)=> (bif j10 then (vNa (0,(w64 (s1.2+1)))) else ((bif ((v8.toNat:Int)==13) then some true else some (((v8.toNat:Int)==10))):Option Bool).bind fun (j16:Bool)=> (bif j16 then some (.out (.inr 11)) else (bif decide (998 < (w64 (s1.1+1))) then some (.out (.inr 1)) else (vNa ((w64 (s1.1+1)),s1.2))))) else some (.out (.inl (()))))
noncomputable def yGa (a0:List UInt8):Option Int:=
 (iter (qZa a0) ((0,0))).bind (Sum.elim (fun b2=> some 0) (fun b3=> some b3))
noncomputable def wka (a0:List UInt8):Option zra:=
 (yGa a0).bind fun v1=> (bif (v1==11) then (zpa 11 ((-5))).bind fun v4=> some v4 else (bif (v1==1) then (zpa 1 ((-6))).bind fun v7=> some v7 else (zUa).bind fun v9=> some v9))
noncomputable def kXa (a0:zqa):Option zra:=
 (qOa a0.Fields).bind fun v1=> (z8a v1).bind fun v3=> (bif v3 then some v1 else (qYa a0).bind fun v6=> (bif decide (12000 < (v6.length:Int)) then (zpa 1 ((-4))).bind fun v9=> some v9 else (wka a0.Body).bind fun v11=> some v11))
noncomputable def q8a (a0:zVa):Option zra:=
 (qea a0.Envelope).bind fun v1=> (z8a v1).bind fun v3=> (bif v3 then some v1 else (kXa a0.Message).bind fun v6=> (z8a v6).bind fun v8=> (bif v8 then (zpa v6.Code ((-30))).bind fun v11=> some v11 else (zUa).bind fun v13=> some v13))
def vOa (a0:UInt8):Option Bool:=
 ((bif ((a0.toNat:Int)==32) then some true else some (((a0.toNat:Int)==9))):Option Bool).bind fun (j1:Bool)=> some j1
def kBa (s5:Str × Int × (List Str)) (s9:Int × Int):Option (Step (Int × Int) Int):=
 ((bif decide (0 < s9.2) then some ((s9.1==0)) else some false):Option Bool).bind fun (j12:Bool)=> (bif j12 then (((bif decide (s5.2.1≤s9.2) then (idx s5.1 s9.2).bind fun v18=> (vOa v18).bind fun v20=> (bif v20 then (idx s5.1 ((w64 (s9.2 - 1)))).bind fun v23=> (vOa v23).bind fun v25=> some ((!v25)) else some false) else some false):Option Bool).bind fun (j16:Bool)=> (bif j16 then some s9.2 else some s9.1):Option Int).bind fun (j15:Int)=> some (.cont (j15,(w64 (s9.2 - 1)))) else some (.out s9.1))
def kka (s5:Str × Int × (List Str)) (s28:Int × Int):Option (Step (Int × Int) Int):=
 ((bif decide (s28.2 < (s5.1.length:Int)) then some ((s28.1==0)) else some false):Option Bool).bind fun (j31:Bool)=> (bif j31 then (((bif decide (s5.2.1≤s28.2) then (idx s5.1 s28.2).bind fun v37=> (vOa v37).bind fun v39=> (bif v39 then (idx s5.1 ((w64 (s28.2 - 1)))).bind fun v42=> (vOa v42).bind fun v44=> some ((!v44)) else some false) else some false):Option Bool).bind fun (j35:Bool)=> (bif j35 then some s28.2 else some s28.1):Option Int).bind fun (j34:Int)=> some (.cont (j34,(w64 (s28.2+1)))) else some (.out s28.1))
noncomputable def qPa (s5:Str × Int × (List Str)):Option (Step (Str × Int × (List Str)) (Str × (List Str))):=
 (bif decide (78 < (s5.1.length:Int)) then (iter (kBa s5) ((0,78))).bind fun b10=> (iter (kka s5) ((b10,79))).bind fun b29=> (bif (b29==0) then some (.out ((s5.1,s5.2.2))) else (cut s5.1 0 b29).bind fun v48=> (app 8796093022208 s5.2.2 (([v48]:List Str))).bind fun v50=> (cut s5.1 b29 ((s5.1.length:Int))).bind fun v52=> some (.cont (v52,1,v50))) else some (.out ((s5.1,s5.2.2))))
noncomputable def vwa (a0:Str) (a1:Str):Option (List Str):=
 (cat a0 (([58,32]:Str))).bind fun v1=> (cat v1 a1).bind fun v3=> (iter (qPa) ((v3,(w64 ((a0.length:Int)+2)),([]:List Str)))).bind fun b6=> (app 8796093022208 b6.2 (([b6.1]:List Str))).bind fun v54=> some v54
def q9a (a0:zfa) (s1:Int):Option (Step Int (Unit ⊕ Int)):=
 (bif decide (s1 < (a0.Name.length:Int)) then ((idx a0.Name s1).bind fun v8=> (R_In ((v8.toNat:Int)) 33 126).bind fun v10=> (bif (!v10) then some true else (idx a0.Name s1).bind fun v13=> some (((v13.toNat:Int)==58))):Option Bool).bind fun (j7:Bool)=> (bif j7 then some (.out (.inr 10)) else some (.cont (w64 (s1+1)))) else some (.out (.inl (()))))
def vaa (a0:zfa) (s20:Int):Option (Step Int (Unit ⊕ Int)):=
 (bif decide (s20 < (a0.Value.length:Int)) then ((idx a0.Value s20).bind fun v27=> (bif ((v27.toNat:Int)==0) then some true else (idx a0.Value s20).bind fun v30=> (bif ((v30.toNat:Int)==10) then some true else (idx a0.Value s20).bind fun v33=> some (((v33.toNat:Int)==13)))):Option Bool).bind fun (j26:Bool)=> (bif j26 then some (.out (.inr 11)) else some (.cont (w64 (s20+1)))) else some (.out (.inl (()))))
def vba (v48:List Str) (s50:Int):Option (Step Int (Unit ⊕ Int)):=
 (bif decide (s50 < (v48.length:Int)) then (idx v48 s50).bind fun v56=> (bif decide (998 < (v56.length:Int)) then some (.out (.inr 1)) else some (.cont (w64 (s50+1)))) else some (.out (.inl (()))))
noncomputable def wRa (a0:zfa):Option Int:=
 (iter (q9a a0) 0).bind (Sum.elim (fun b2=> (R_In ((a0.Name.length:Int)) 1 60).bind fun v16=> (bif (!v16) then some 10 else (bif decide (4000 < (a0.Value.length:Int)) then some 1 else (iter (vaa a0) 0).bind (Sum.elim (fun b21=> ((bif decide (0 < (a0.Value.length:Int)) then (idx a0.Value 0).bind fun v38=> (vOa v38).bind fun v40=> (bif v40 then some true else (idx a0.Value ((w64 ((a0.Value.length:Int) - 1)))).bind fun v43=> (vOa v43).bind fun v45=> some v45) else some false):Option Bool).bind fun (j36:Bool)=> (bif j36 then some 11 else (vwa a0.Name a0.Value).bind fun v48=> (iter (vba v48) 0).bind (Sum.elim (fun b51=> some 0) (fun b52=> some b52)))) (fun b22=> some b22))))) (fun b3=> some b3))
def qfa (v9:List Str) (s11:Int × (List UInt8)):Option (Step (Int × (List UInt8)) (List UInt8)):=
 (bif decide (s11.1 < (v9.length:Int)) then (idx v9 s11.1).bind fun v15=> (app 140737488355328 s11.2 v15).bind fun v17=> (app 140737488355328 v17 (([(13:UInt8),(10:UInt8)]:List UInt8))).bind fun v19=> some (.cont ((w64 (s11.1+1)),v19)) else some (.out s11.2))
noncomputable def qga (a0:zqa) (s1:Int × (List UInt8)):Option (Step (Int × (List UInt8)) (List UInt8)):=
 (bif decide (s1.1 < (a0.Fields.length:Int)) then (idx a0.Fields s1.1).bind fun v5=> (idx a0.Fields s1.1).bind fun v7=> (vwa v5.Name v7.Value).bind fun v9=> (iter (qfa v9) ((0,s1.2))).bind fun b12=> some (.cont ((w64 (s1.1+1)),b12)) else some (.out s1.2))
noncomputable def vca (a0:zqa):Option (List UInt8):=
 (iter (qga a0) ((0,([]:List UInt8)))).bind fun b2=> (app 140737488355328 b2 (([(13:UInt8),(10:UInt8)]:List UInt8))).bind fun v21=> (app 140737488355328 v21 a0.Body).bind fun v23=> some v23
noncomputable def q0a (a0:zqa) (s4:Int):Option (Step Int (Unit ⊕ zra)):=
 (bif decide (s4 < (a0.Fields.length:Int)) then (idx a0.Fields s4).bind fun v10=> (wRa v10).bind fun v12=> (bif (v12 !=0) then (R_At v12 s4).bind fun v15=> some (.out (.inr v15)) else some (.cont (w64 (s4+1)))) else some (.out (.inl (()))))
def qha (j30:Int × Int):Option (Step (Int × Int) (Unit ⊕ zra)):=
 some (.cont (j30.1,(w64 (j30.2+1))))
def kNa (a0:zqa) (s24:Int × Int):Option (Step (Int × Int) (Unit ⊕ zra)):=
 (bif decide (s24.2 < (a0.Body.length:Int)) then (idx a0.Body s24.2).bind fun v31=> ((bif ((v31.toNat:Int)==13) then (bif decide ((w64 (s24.2+1)) < (a0.Body.length:Int)) then (idx a0.Body ((w64 (s24.2+1)))).bind fun v36=> some (((v36.toNat:Int)==10)) else some false) else some false):Option Bool).bind fun (j33:Bool)=> (bif j33 then (qha (0,(w64 (s24.2+1)))) else ((bif ((v31.toNat:Int)==13) then some true else some (((v31.toNat:Int)==10))):Option Bool).bind fun (j39:Bool)=> (bif j39 then (R_At 11 ((-5))).bind fun v42=> some (.out (.inr v42)) else (bif decide (998 < (w64 (s24.1+1))) then (R_At 1 ((-6))).bind fun v45=> some (.out (.inr v45)) else (qha ((w64 (s24.1+1)),s24.2))))) else some (.out (.inl (()))))
noncomputable def qya (a0:zqa):Option zra:=
 (bif decide (60 < (a0.Fields.length:Int)) then (R_At 2 ((-1))).bind fun v2=> some v2 else (iter (q0a a0) 0).bind (Sum.elim (fun b5=> ((bif decide (12000 < (a0.Body.length:Int)) then some true else (vca a0).bind fun v19=> some (decide (12000 < (v19.length:Int)))):Option Bool).bind fun (j17:Bool)=> (bif j17 then (R_At 1 ((-4))).bind fun v22=> some v22 else (iter (kNa a0) ((0,0))).bind (Sum.elim (fun b25=> some ((zra.mk 0 0))) (fun b26=> some b26)))) (fun b6=> some b6)))
noncomputable def wSa (a0:zVa):Option zra:=
 (qMa a0.Envelope).bind fun v1=> (((bif (v1.Code==0) then (qya a0.Message).bind fun v6=> some ((v6.Code !=0)) else some false):Option Bool).bind fun (j4:Bool)=> (bif j4 then (qya a0.Message).bind fun v9=> (R_At v9.Code ((-30))).bind fun v11=> some ((v11.Code,v11.Index)) else some ((v1.Code,v1.Index))):Option (Int × Int)).bind fun (j3:Int × Int)=> some ((zra.mk j3.1 j3.2))
end Go.Proofs.YtjnmamghadpedaaGreatDoor
namespace Go.Proofs.YtjnmamghadpedaaGreatDoor
open Go.RowKit
set_option maxRecDepth 100000
set_option maxHeartbeats 40000000
def vka (a0:zqa) (a1:zqa) (s4:Int):Option (Step Int (Unit ⊕ Bool)):=
 (bif decide (s4 < (a0.Fields.length:Int)) then (idx a0.Fields s4).bind fun v10=> (idx a1.Fields s4).bind fun v12=> (bif (!(wqa [(v10.Name==v12.Name),(v10.Value==v12.Value)])) then some (.out (.inr false)) else some (.cont (w64 (s4+1)))) else some (.out (.inl (()))))
noncomputable def vPa (a0:zqa) (a1:zqa):Option Bool:=
 ((bif ((a0.Fields.length:Int) !=(a1.Fields.length:Int)) then some true else some ((a0.Body !=a1.Body))):Option Bool).bind fun (j1:Bool)=> (bif j1 then some false else (iter (vka a0 a1) 0).bind (Sum.elim (fun b5=> some true) (fun b6=> some b6)))
end Go.Proofs.YtjnmamghadpedaaGreatDoor
namespace Go.Proofs.YtjnmamghadpedaaGreatDoor
open Go.RowKit
set_option maxRecDepth 100000
set_option maxHeartbeats 40000000
def wCa (a0:zVa) (a1:zVa) (s5:Int):Option (Step Int (Unit ⊕ Bool)):=
 (bif decide (s5 < (a0.Envelope.To.length:Int)) then (idx a0.Envelope.To s5).bind fun v11=> (idx a1.Envelope.To s5).bind fun v13=> (bif (!(wqa [(v11.Address==v13.Address),(v11.Notify==v13.Notify)])) then some (.out (.inr false)) else some (.cont (w64 (s5+1)))) else some (.out (.inl (()))))
noncomputable def yHa (a0:zVa) (a1:zVa):Option Bool:=
 ((bif (a0.Envelope.From !=a1.Envelope.From) then some true else (bif (a0.Envelope.Id !=a1.Envelope.Id) then some true else some (((a0.Envelope.To.length:Int) !=(a1.Envelope.To.length:Int))))):Option Bool).bind fun (j1:Bool)=> (bif j1 then some false else (iter (wCa a0 a1) 0).bind (Sum.elim (fun b6=> (vPa a0.Message a1.Message).bind fun v16=> some v16) (fun b7=> some b7)))
end Go.Proofs.YtjnmamghadpedaaGreatDoor
namespace Go.Proofs.YtjnmamghadpedaaGreatDoor
open Go.RowKit
set_option maxRecDepth 100000
set_option maxHeartbeats 40000000
end Go.Proofs.YtjnmamghadpedaaGreatDoor
namespace Go.Proofs.YtjnmamghadpedaaGreatDoor
open Go.RowKit
set_option maxRecDepth 100000
set_option maxHeartbeats 40000000
noncomputable def zWa (a0:List zfa):Option (List zfa):=
 (nilE a0.isEmpty (some ([])) ((app 4398046511104 ([]:List zfa) a0).bind fun v2=> some v2))
end Go.Proofs.YtjnmamghadpedaaGreatDoor
namespace Go.Proofs.YtjnmamghadpedaaGreatDoor
open Go.RowKit
set_option maxRecDepth 100000
set_option maxHeartbeats 40000000
end Go.Proofs.YtjnmamghadpedaaGreatDoor
namespace Go.Proofs.YtjnmamghadpedaaGreatDoor
open Go.RowKit
def kKa (n:Int):Option Str:=if -9223372036854775808≤n∧n≤9223372036854775807 then some (Lib.itoa n) else none
def qla (s:Str):Option (Int × Bool):=if s.length≤18 then (match Lib.atoi s with | some n=> some (n,false) | none=> some (0,true)) else none
end Go.Proofs.YtjnmamghadpedaaGreatDoor
namespace Go.Proofs.YtjnmamghadpedaaGreatDoor
open Go.RowKit
set_option maxRecDepth 100000
set_option maxHeartbeats 40000000
def wGa (a0:Int):Option Bool:=
 ((bif decide (200≤a0) then some (decide (a0≤599)) else some false):Option Bool).bind fun (j1:Bool)=> some j1
def q1a (a0:kDa) (s11:Int):Option (Step Int (Unit ⊕ zra)):=
 (bif decide (s11 < (a0.Lines.length:Int)) then (idx a0.Lines s11).bind fun v17=> (bif decide (500 < (v17.length:Int)) then (zpa 1 s11).bind fun v20=> some (.out (.inr v20)) else (zDa v17 (([13,10]:Str))).bind fun v22=> (bif v22 then (zpa 5 s11).bind fun v25=> some (.out (.inr v25)) else some (.cont (w64 (s11+1))))) else some (.out (.inl (()))))
noncomputable def vda (a0:kDa):Option zra:=
 (wGa a0.Code).bind fun v1=> (bif (!v1) then (zpa 3 ((-1))).bind fun v4=> some v4 else ((bif decide ((a0.Lines.length:Int) < 1) then some true else some (decide (20 < (a0.Lines.length:Int)))):Option Bool).bind fun (j6:Bool)=> (bif j6 then (zpa 2 ((-2))).bind fun v9=> some v9 else (iter (q1a a0) 0).bind (Sum.elim (fun b12=> (zUa).bind fun v27=> some v27) (fun b13=> some b13))))
def vQa (a0:Str) (s1:Int):Option (Step Int (Unit ⊕ Bool)):=
 (bif decide (s1 < (a0.length:Int)) then ((idx a0 s1).bind fun v8=> (bif decide ((v8.toNat:Int) < 48) then some true else (idx a0 s1).bind fun v11=> some (decide (57 < (v11.toNat:Int)))):Option Bool).bind fun (j7:Bool)=> (bif j7 then some (.out (.inr false)) else some (.cont (w64 (s1+1)))) else some (.out (.inl (()))))
noncomputable def qQa (a0:Str):Option Bool:=
 (iter (vQa a0) 0).bind (Sum.elim (fun b2=> some ((a0 !=([]:Str)))) (fun b3=> some b3))
noncomputable def yIa (a0:Str):Option (Int × Str × Bool × Bool):=
 ((bif decide ((a0.length:Int) < 4) then some true else (idx a0 3).bind fun v3=> (bif ((v3.toNat:Int) !=45) then (idx a0 3).bind fun v6=> (bif ((v6.toNat:Int) !=32) then some true else (cut a0 0 3).bind fun v9=> (qQa v9).bind fun v11=> (bif (!v11) then some true else (zDa a0 (([13,10]:Str))).bind fun v14=> some v14)) else (cut a0 0 3).bind fun v16=> (qQa v16).bind fun v18=> (bif (!v18) then some true else (zDa a0 (([13,10]:Str))).bind fun v21=> some v21))):Option Bool).bind fun (j1:Bool)=> (bif j1 then some ((0,([]:Str),false,false)) else (cut a0 0 3).bind fun v24=> (qla v24).bind fun v26=> (cut a0 4 ((a0.length:Int))).bind fun v28=> (idx a0 3).bind fun v30=> (wGa v26.1).bind fun v32=> some ((v26.1,v28,((v30.toNat:Int)==32),v32)))
noncomputable def wca (a0:List Str) (s4:Int × (List Str) × Int):Option (Step (Int × (List Str) × Int) (Unit ⊕ (kDa × Int × zra))):=
 (bif decide (s4.1 < (a0.length:Int)) then (idx a0 s4.1).bind fun v10=> (yIa v10).bind fun v12=> ((bif (s4.1==20) then some 2 else (bif (!v12.2.2.2) then some 11 else (bif decide (500 < (v12.2.1.length:Int)) then some 1 else ((bif decide (0 < s4.1) then some ((v12.1 !=s4.2.2)) else some false):Option Bool).bind fun (j18:Bool)=> (bif j18 then some 5 else some 0)))):Option Int).bind fun (j14:Int)=> (bif (j14 !=0) then (zpa j14 s4.1).bind fun v22=> some (.out (.inr (((kDa.mk 0 ([])),0,v22)))) else (app 8796093022208 s4.2.1 (([v12.2.1]:List Str))).bind fun v24=> (bif v12.2.2.1 then (zUa).bind fun v27=> some (.out (.inr (((kDa.mk v12.1 v24),(w64 (s4.1+1)),v27)))) else some (.cont ((w64 (s4.1+1)),v24,v12.1)))) else some (.out (.inl (()))))
noncomputable def wTa (a0:List Str):Option (kDa × Int × zra):=
 (bif decide (300 < (a0.length:Int)) then (zpa 2 ((-1))).bind fun v2=> some (((kDa.mk 0 ([])),0,v2)) else (iter (wca a0) ((0,([]:List Str),0))).bind (Sum.elim (fun b5=> (zpa 9 ((-2))).bind fun v29=> some (((kDa.mk 0 ([])),0,v29))) (fun b6=> some ((b6.1,b6.2.1,b6.2.2)))))
noncomputable def wUa (a0:kDa):Option (Int × zra):=
 (vda a0).bind fun v1=> (z8a v1).bind fun v3=> (bif v3 then some ((0,v1)) else (zUa).bind fun v6=> some (((iQuo a0.Code 100),v6)))
end Go.Proofs.YtjnmamghadpedaaGreatDoor
namespace Go.Proofs.YtjnmamghadpedaaGreatDoor
open Go.RowKit
def qRa (l:List Str) (s:Str):Option Str:=if l.length≤140737488355328∧(Lib.join l s).length≤140737488355328 then some (Lib.join l s) else none
end Go.Proofs.YtjnmamghadpedaaGreatDoor
namespace Go.Proofs.YtjnmamghadpedaaGreatDoor
open Go.RowKit
end Go.Proofs.YtjnmamghadpedaaGreatDoor
namespace Go.Proofs.YtjnmamghadpedaaGreatDoor
open Go.RowKit
set_option maxRecDepth 100000
set_option maxHeartbeats 40000000
end Go.Proofs.YtjnmamghadpedaaGreatDoor
namespace Go.Proofs.YtjnmamghadpedaaGreatDoor
open Go.RowKit
end Go.Proofs.YtjnmamghadpedaaGreatDoor
namespace Go.Proofs.YtjnmamghadpedaaGreatDoor
open Go.RowKit
end Go.Proofs.YtjnmamghadpedaaGreatDoor
namespace Go.Proofs.YtjnmamghadpedaaGreatDoor
open Go.RowKit
set_option maxRecDepth 100000
set_option maxHeartbeats 40000000
def wla (a0:zta):Option zta:=
 ((bif (a0.Verb==1) then some ((a0.Name,([]:Str),0,0,false)) else (bif (a0.Verb==2) then some ((([]:Str),a0.Address,a0.Size,0,false)) else (bif (a0.Verb==3) then some ((([]:Str),a0.Address,0,a0.Notify,false)) else (bif (a0.Verb==5) then some ((([]:Str),([]:Str),a0.Size,0,a0.Last)) else some ((([]:Str),([]:Str),0,0,false)))))):Option (Str × Str × Int × Int × Bool)).bind fun (j1:Str × Str × Int × Int × Bool)=> some ((zta.mk a0.Verb j1.1 j1.2.1 j1.2.2.1 j1.2.2.2.1 j1.2.2.2.2))
noncomputable def qwa (a0:zta):Option zra:=
 ((bif (a0.Verb==3) then some true else (bif (a0.Verb==2) then some ((a0.Address !=([]:Str))) else some false)):Option Bool).bind fun (j1:Bool)=> ((bif decide (a0.Verb < 1) then some true else some (decide (8 < a0.Verb))):Option Bool).bind fun (j4:Bool)=> (bif j4 then (zpa 4 ((-2))).bind fun v7=> some v7 else (wla a0).bind fun v9=> (bif (!(wqa [(a0.Verb==v9.Verb),(a0.Name==v9.Name),(a0.Address==v9.Address),(a0.Size==v9.Size),(a0.Notify==v9.Notify),(a0.Last==v9.Last)])) then (zpa 5 ((-3))).bind fun v12=> some v12 else ((bif (a0.Verb==1) then (v5a a0.Name).bind fun v16=> some ((!v16)) else some false):Option Bool).bind fun (j14:Bool)=> (bif j14 then (zpa 10 ((-4))).bind fun v19=> some v19 else ((bif j1 then (kFa a0.Address).bind fun v23=> some ((!v23)) else some false):Option Bool).bind fun (j21:Bool)=> (bif j21 then (zpa 10 ((-5))).bind fun v26=> some v26 else ((bif decide (a0.Size < 0) then some true else some (decide (1000000 < a0.Size))):Option Bool).bind fun (j28:Bool)=> (bif j28 then (zpa 3 ((-6))).bind fun v31=> some v31 else (qda a0.Notify).bind fun v33=> (bif (!v33) then (zpa 3 ((-7))).bind fun v36=> some v36 else (zUa).bind fun v38=> some v38))))))
def wDa:Option (Str × Str × Str × Str × Str × Str × Str × Str):=
 some ((([104,101,108,108,111]:Str),([109,97,105,108]:Str),([114,99,112,116]:Str),([100,97,116,97]:Str),([99,104,117,110,107]:Str),([114,101,115,101,116]:Str),([110,111,111,112]:Str),([113,117,105,116]:Str)))
def qDa:Option (zia × zia × zia):=
 some (((zia.mk 1 (([102,97,105,108,117,114,101]:Str))),(zia.mk 2 (([100,101,108,97,121]:Str))),(zia.mk 4 (([115,117,99,99,101,115,115]:Str)))))
def v6a (a0:Int) (v1:zia × zia × zia) (s3:Int × (List Str)):Option (Step (Int × (List Str)) (List Str)):=
 (bif decide (s3.1 < 3) then ((idx ([v1.1,v1.2.1,v1.2.2]:List zia) s3.1).bind fun v8=> (bif ((iAnd a0 v8.n) !=0) then (app 8796093022208 s3.2 (([v8.word]:List Str))).bind fun v11=> some v11 else some s3.2):Option (List Str)).bind fun (j7:List Str)=> some (.cont ((w64 (s3.1+1)),j7)) else some (.out s3.2))
noncomputable def vea (a0:Int):Option Str:=
 (qDa).bind fun v1=> (iter (v6a a0 v1) ((0,([]:List Str)))).bind fun b4=> (bif ((b4.length:Int)==0) then some (([110,101,118,101,114]:Str)) else (qRa b4 (([44]:Str))).bind fun v14=> some v14)
noncomputable def vRa (a0:zta):Option (Str × zra):=
 (qwa a0).bind fun v1=> (z8a v1).bind fun v3=> (bif v3 then some ((([]:Str),v1)) else (wDa).bind fun v6=> (idx ([v6.1,v6.2.1,v6.2.2.1,v6.2.2.2.1,v6.2.2.2.2.1,v6.2.2.2.2.2.1,v6.2.2.2.2.2.2.1,v6.2.2.2.2.2.2.2]:List Str) ((w64 (a0.Verb - 1)))).bind fun v8=> ((bif (a0.Verb==1) then (cat (([32]:Str)) a0.Name).bind fun v12=> (cat v8 v12).bind fun v14=> some v14 else (bif (a0.Verb==2) then (cat (([32,60]:Str)) a0.Address).bind fun v17=> (cat v17 (([62]:Str))).bind fun v19=> (cat v8 v19).bind fun v21=> (bif (a0.Size !=0) then (kKa a0.Size).bind fun v24=> (cat (([32,115,105,122,101,61]:Str)) v24).bind fun v26=> (cat v21 v26).bind fun v28=> some v28 else some v21) else (bif (a0.Verb==3) then (cat (([32,60]:Str)) a0.Address).bind fun v31=> (cat v31 (([62]:Str))).bind fun v33=> (cat v8 v33).bind fun v35=> (bif (a0.Notify !=1) then (vea a0.Notify).bind fun v38=> (cat (([32,110,111,116,105,102,121,61]:Str)) v38).bind fun v40=> (cat v35 v40).bind fun v42=> some v42 else some v35) else (bif (a0.Verb==5) then (kKa a0.Size).bind fun v45=> (cat (([32]:Str)) v45).bind fun v47=> (cat v8 v47).bind fun v49=> (bif a0.Last then (cat v49 (([32,108,97,115,116]:Str))).bind fun v52=> some v52 else some v49) else some v8)))):Option Str).bind fun (j10:Str)=> (zUa).bind fun v54=> some ((j10,v54)))
end Go.Proofs.YtjnmamghadpedaaGreatDoor
namespace Go.Proofs.YtjnmamghadpedaaGreatDoor
open Go.RowKit
set_option maxRecDepth 100000
set_option maxHeartbeats 40000000
end Go.Proofs.YtjnmamghadpedaaGreatDoor
namespace Go.Proofs.YtjnmamghadpedaaGreatDoor
open Go.RowKit
set_option maxRecDepth 100000
set_option maxHeartbeats 40000000
noncomputable def vSa (a0:zqa):Option ((List UInt8) × zra):=
 (kXa a0).bind fun v1=> (z8a v1).bind fun v3=> (bif v3 then some (([],v1)) else (qYa a0).bind fun v6=> (zUa).bind fun v8=> some ((v6,v8)))
end Go.Proofs.YtjnmamghadpedaaGreatDoor
namespace Go.Proofs.YtjnmamghadpedaaGreatDoor
open Go.RowKit
set_option maxRecDepth 100000
set_option maxHeartbeats 40000000
def zSa (a0:zda) (a1:Int) (s1:Int × zda):Option (Step (Int × zda) zda):=
 (bif decide (s1.1 < (a0.Client.Results.length:Int)) then ((idx s1.2.Client.Results s1.1).bind fun v6=> (idx s1.2.Client.Results s1.1).bind fun v8=> (bif (v8==0) then (idx s1.2.Client.Results s1.1).bind fun v11=> (idx s1.2.Client.Results s1.1).bind fun v13=> some ((zda.mk ((zla.mk s1.2.Client.Name s1.2.Client.Mail s1.2.Client.Pipelined s1.2.Client.Buffer s1.2.Client.Expected s1.2.Client.Whole s1.2.Client.Done ((List.set s1.2.Client.Results (Int.toNat s1.1) a1)))) s1.2.content s1.2.chunk s1.2.out)) else some s1.2):Option zda).bind fun (j5:zda)=> some (.cont ((w64 (s1.1+1)),j5)) else some (.out s1.2))
noncomputable def kea (a0:zda) (a1:Int):Option zda:=
 (iter (zSa a0 a1) ((0,a0))).bind fun b2=> some b2
def kTa (a0:zda) (s2:Int):Option (Step Int (Unit ⊕ Int)):=
 (bif decide (s2 < (a0.Client.Results.length:Int)) then (idx a0.Client.Results s2).bind fun v8=> (idx a0.Client.Results s2).bind fun v10=> (bif (0==v10) then some (.out (.inr s2)) else some (.cont (w64 (s2+1)))) else some (.out (.inl (()))))
noncomputable def kfa (a0:zda):Option (Bool × zda):=
 ((iter (kTa a0) 0).bind (Sum.elim (fun b3=> some ((-1))) (fun b4=> some b4)):Option Int).bind fun (j1:Int)=> some (((!(decide (0≤j1))),a0))
noncomputable def zsa (a0:zda) (a1:zta):Option zda:=
 (vRa a1).bind fun v1=> (app 140737488355328 a0.out v1.1).bind fun v3=> (app 140737488355328 v3 (([(13:UInt8),(10:UInt8)]:List UInt8))).bind fun v5=> some ((zda.mk a0.Client a0.content a0.chunk v5))
noncomputable def zva (a0:zda) (a1:Int):Option zda:=
 (kea a0 a1).bind fun v1=> (zsa v1 ((zta.mk 8 (([]:Str)) (([]:Str)) 0 0 false))).bind fun v3=> some ((zda.mk ((zla.mk v3.Client.Name v3.Client.Mail v3.Client.Pipelined v3.Client.Buffer v3.Client.Expected v3.Client.Whole true v3.Client.Results)) v3.content v3.chunk v3.out))
noncomputable def kua (a0:zda):Option zda:=
 ((bif a0.Client.Whole then some 4 else some 2):Option Int).bind fun (j1:Int)=> (kea a0 j1).bind fun v3=> some ((zda.mk ((zla.mk v3.Client.Name v3.Client.Mail v3.Client.Pipelined v3.Client.Buffer v3.Client.Expected v3.Client.Whole true v3.Client.Results)) v3.content v3.chunk v3.out))
def z0a (a0:zda):Option (Int × zda):=
 some (((a0.Client.Mail.Envelope.To.length:Int),a0))
noncomputable def zya (a0:zda) (a1:Int):Option zda:=
 (bif (a1==1) then (zsa a0 ((zta.mk 1 a0.Client.Name (([]:Str)) 0 0 false))).bind fun v2=> some v2 else (bif (a1==2) then (zsa a0 ((zta.mk 2 (([]:Str)) a0.Client.Mail.Envelope.From ((a0.content.length:Int)) 0 false))).bind fun v5=> some v5 else (z0a a0).bind fun v7=> (bif decide (a1 < (w64 (v7.1+3))) then (idx a0.Client.Mail.Envelope.To ((w64 (a1 - 3)))).bind fun v10=> (zsa v7.2 ((zta.mk 3 (([]:Str)) v10.Address 0 v10.Notify false))).bind fun v12=> some v12 else (bif v7.2.chunk then (zsa v7.2 ((zta.mk 5 (([]:Str)) (([]:Str)) ((v7.2.content.length:Int)) 0 true))).bind fun v15=> (app 140737488355328 v15.out v15.content).bind fun v17=> some ((zda.mk ((zla.mk v15.Client.Name v15.Client.Mail v15.Client.Pipelined v15.Client.Buffer v15.Client.Expected true v15.Client.Done v15.Client.Results)) v15.content v15.chunk v17)) else (zsa v7.2 ((zta.mk 4 (([]:Str)) (([]:Str)) 0 0 false))).bind fun v19=> some v19))))
noncomputable def zLa (j4:Int × Bool) (s10:Int × zda):Option (Step (Int × zda) zda):=
 (bif decide (s10.1≤j4.1) then (zya s10.2 s10.1).bind fun v14=> some (.cont ((w64 (s10.1+1)),v14)) else some (.out s10.2))
noncomputable def z1a (a0:zda):Option zda:=
 (z0a ((zda.mk ((zla.mk a0.Client.Name a0.Client.Mail a0.Client.Pipelined a0.Client.Buffer ((w64 (a0.Client.Expected+1))) a0.Client.Whole a0.Client.Done a0.Client.Results)) a0.content a0.chunk a0.out))).bind fun v1=> (((bif (!v1.2.Client.Pipelined) then some (((w64 (v1.1+3)),true)) else some (((w64 (v1.1+3)),(v1.2.Client.Expected==1)))):Option (Int × Bool)).bind fun (j4:Int × Bool)=> (bif j4.2 then (zya v1.2 v1.2.Client.Expected).bind fun v7=> some ((j4.1,v7)) else (bif (v1.2.Client.Expected==2) then (iter (zLa j4) ((2,v1.2))).bind fun b11=> some ((j4.1,b11)) else some ((j4.1,v1.2)))):Option (Int × zda)).bind fun (j3:Int × zda)=> ((bif (j3.2.Client.Expected==j3.1) then some j3.2.chunk else some false):Option Bool).bind fun (j16:Bool)=> (bif j16 then some ((zda.mk ((zla.mk j3.2.Client.Name j3.2.Client.Mail j3.2.Client.Pipelined j3.2.Client.Buffer ((w64 (j3.2.Client.Expected+1))) j3.2.Client.Whole j3.2.Client.Done j3.2.Client.Results)) j3.2.content j3.2.chunk j3.2.out)) else some j3.2)
def kya (a0:Int):Option Int:=
 (bif (a0==5) then some 3 else some 2)
noncomputable def qaa (a0:zda) (a1:Int):Option zda:=
 (bif (a1 !=3) then (kya a1).bind fun v2=> (zva a0 v2).bind fun v4=> some v4 else (kfa a0).bind fun v6=> (bif v6.1 then some ((zda.mk ((zla.mk v6.2.Client.Name v6.2.Client.Mail v6.2.Client.Pipelined v6.2.Client.Buffer v6.2.Client.Expected v6.2.Client.Whole true v6.2.Client.Results)) v6.2.content v6.2.chunk v6.2.out)) else (vra v6.2.content).bind fun v9=> (app 140737488355328 v6.2.out v9.1).bind fun v11=> some ((zda.mk ((zla.mk v6.2.Client.Name v6.2.Client.Mail v6.2.Client.Pipelined v6.2.Client.Buffer ((w64 (v6.2.Client.Expected+1))) true v6.2.Client.Done v6.2.Client.Results)) v6.2.content v6.2.chunk v11))))
noncomputable def kva (a0:zda) (a1:kDa):Option zda:=
 (wUa a1).bind fun v1=> (z0a a0).bind fun v3=> (bif decide (v3.2.Client.Expected < 3) then (bif (v1.1 !=2) then (kya v1.1).bind fun v7=> (zva v3.2 v7).bind fun v9=> some v9 else (z1a v3.2).bind fun v11=> some v11) else (bif decide (v3.2.Client.Expected < (w64 (v3.1+3))) then ((bif (v1.1 !=2) then (kya v1.1).bind fun v16=> (idx v3.2.Client.Results ((w64 (v3.2.Client.Expected - 3)))).bind fun v18=> (idx v3.2.Client.Results ((w64 (v3.2.Client.Expected - 3)))).bind fun v20=> some (((w64 (v3.1+3)),(zda.mk ((zla.mk v3.2.Client.Name v3.2.Client.Mail v3.2.Client.Pipelined v3.2.Client.Buffer v3.2.Client.Expected v3.2.Client.Whole v3.2.Client.Done ((List.set v3.2.Client.Results (Int.toNat ((w64 (v3.2.Client.Expected - 3)))) v16)))) v3.2.content v3.2.chunk v3.2.out))) else some (((w64 (v3.1+3)),v3.2))):Option (Int × zda)).bind fun (j14:Int × zda)=> ((bif (j14.2.Client.Expected==(w64 (j14.1 - 1))) then (bif (!j14.2.Client.Pipelined) then (kfa j14.2).bind fun v25=> some ((v25.1,v25.2)) else some ((false,j14.2))) else some ((false,j14.2))):Option (Bool × zda)).bind fun (j22:Bool × zda)=> (bif j22.1 then (zva j22.2 2).bind fun v28=> some v28 else (z1a j22.2).bind fun v30=> some v30) else (bif (v3.2.Client.Expected==(w64 (v3.1+3))) then (qaa v3.2 v1.1).bind fun v33=> some v33 else (bif (v1.1==2) then (zva v3.2 1).bind fun v36=> some v36 else (kya v1.1).bind fun v38=> (zva v3.2 v38).bind fun v40=> some v40))))
noncomputable def kba (a0:zda) (s1:Int × (List Str)):Option (Step (Int × (List Str)) (Bool × zda)):=
 (cut a0.Client.Buffer s1.1 ((a0.Client.Buffer.length:Int))).bind fun v4=> (qKa v4 (([(13:UInt8),(10:UInt8)]:List UInt8))).bind fun v6=> (bif decide (v6 < 0) then some (.out ((false,a0))) else (cut a0.Client.Buffer s1.1 ((w64 (s1.1+v6)))).bind fun v9=> (app 8796093022208 s1.2 (([v9]:List Str))).bind fun v11=> (wTa v11).bind fun v13=> ((bif decide (4000 < v6) then some (((w64 (s1.1+(w64 (v6+2)))),true)) else (bif (v13.2.2.Code !=0) then some (((w64 (s1.1+(w64 (v6+2)))),(v13.2.2.Code !=9))) else some (((w64 (s1.1+(w64 (v6+2)))),false)))):Option (Int × Bool)).bind fun (j15:Int × Bool)=> (bif j15.2 then (kua a0).bind fun v19=> some (.out ((false,v19))) else (bif (v13.2.2.Code==0) then (cut a0.Client.Buffer j15.1 ((a0.Client.Buffer.length:Int))).bind fun v22=> (kva ((zda.mk ((zla.mk a0.Client.Name a0.Client.Mail a0.Client.Pipelined v22 a0.Client.Expected a0.Client.Whole a0.Client.Done a0.Client.Results)) a0.content a0.chunk a0.out)) v13.1).bind fun v24=> some (.out ((true,v24))) else some (.cont (j15.1,v11)))))
noncomputable def kwa (a0:zda):Option (Bool × zda):=
 (iter (kba a0) ((0,([]:List Str)))).bind fun b2=> some ((b2.1,b2.2))
noncomputable def vxa (a0:Str) (a1:zVa):Option zra:=
 (v5a a0).bind fun v1=> (bif (!v1) then (zpa 10 ((-20))).bind fun v4=> some v4 else (q8a a1).bind fun v6=> some v6)
noncomputable def qra (a0:zVa):Option zVa:=
 ((nilE a0.Envelope.To.isEmpty (some ([])) ((app 5864062014805 ([]:List zca) a0.Envelope.To).bind fun v3=> some v3)):Option (List zca)).bind fun (j1:List zca)=> (zWa a0.Message.Fields).bind fun v5=> ((nilE a0.Message.Body.isEmpty (some ([])) ((app 140737488355328 ([]:List UInt8) a0.Message.Body).bind fun v9=> some v9)):Option (List UInt8)).bind fun (j7:List UInt8)=> some ((zVa.mk ((zxa.mk a0.Envelope.From j1 a0.Envelope.Id)) ((zqa.mk v5 j7))))
noncomputable def vya (a0:Str) (a1:zVa) (a2:Bool):Option (zla × zra):=
 (vxa a0 a1).bind fun v1=> (z8a v1).bind fun v3=> (bif v3 then some (((zla.mk (([]:Str)) ((zVa.mk ((zxa.mk (([]:Str)) ([]) (([]:Str)))) ((zqa.mk ([]) ([]))))) false ([]) 0 false false ([])),v1)) else (qra a1).bind fun v6=> (zmk 17592186044416 ((a1.Envelope.To.length:Int)) (0:Int)).bind fun v8=> (zUa).bind fun v10=> some (((zla.mk a0 v6 a2 ([]) 0 false false v8),v10)))
noncomputable def qza (a0:zqa):Option ((List UInt8) × Bool):=
 (vSa a0).bind fun v1=> (kAa v1.1 (([(13:UInt8),(10:UInt8)]:List UInt8))).bind fun v3=> some ((v1.1,(!v3)))
def vfa (a0:zla) (s13:Int):Option (Step Int (Unit ⊕ Bool)):=
 (bif decide (s13 < (a0.Results.length:Int)) then (idx a0.Results s13).bind fun v19=> ((bif decide (a0.Expected≤(w64 (s13+3))) then some ((v19 !=0)) else some false):Option Bool).bind fun (j21:Bool)=> (bif j21 then some (.out (.inr false)) else some (.cont (w64 (s13+1)))) else some (.out (.inl (()))))
noncomputable def wVa (a0:zla):Option Bool:=
 (qza a0.Mail.Message).bind fun v1=> ((bif (a0.Expected==(w64 ((a0.Mail.Envelope.To.length:Int)+4))) then (bif (a0.Whole !=true) then some true else (bif v1.2 then some ((a0.Expected==(w64 ((a0.Mail.Envelope.To.length:Int)+3)))) else some false)) else (bif v1.2 then (bif a0.Pipelined then (bif (a0.Whole !=decide (2≤a0.Expected)) then some true else some ((a0.Expected==(w64 ((a0.Mail.Envelope.To.length:Int)+3))))) else (bif (a0.Whole !=false) then some true else some ((a0.Expected==(w64 ((a0.Mail.Envelope.To.length:Int)+3)))))) else (bif (a0.Whole !=false) then some true else some false))):Option Bool).bind fun (j3:Bool)=> (bif j3 then some false else (iter (vfa a0) 0).bind (Sum.elim (fun b14=> some true) (fun b15=> some b15)))
def qSa (a0:zla) (s9:Int):Option (Step Int (Unit ⊕ Int)):=
 (bif decide (s9 < (a0.Results.length:Int)) then (idx a0.Results s9).bind fun v15=> ((bif decide (v15 < 0) then some true else some (decide (4 < v15))):Option Bool).bind fun (j17:Bool)=> (bif j17 then some (.out (.inr s9)) else some (.cont (w64 (s9+1)))) else some (.out (.inl (()))))
noncomputable def vza (a0:zla):Option zra:=
 (vxa a0.Name a0.Mail).bind fun v1=> (z8a v1).bind fun v3=> (bif v3 then some v1 else ((bif ((a0.Results.length:Int) !=(a0.Mail.Envelope.To.length:Int)) then some true else ((iter (qSa a0) 0).bind (Sum.elim (fun b10=> some ((-1))) (fun b11=> some b11)):Option Int).bind fun (j8:Int)=> (bif decide (0≤j8) then some true else (bif decide (a0.Expected < 0) then some true else (bif decide ((w64 ((a0.Mail.Envelope.To.length:Int)+4)) < a0.Expected) then some true else (bif decide (40000 < (a0.Buffer.length:Int)) then some true else (bif (!a0.Done) then (wVa a0).bind fun v25=> some ((!v25)) else some false)))))):Option Bool).bind fun (j6:Bool)=> (bif j6 then (zpa 5 ((-23))).bind fun v28=> some v28 else (zUa).bind fun v30=> some v30))
noncomputable def kma (a0:List Int):Option (List Int):=
 (nilE a0.isEmpty (some ([])) ((app 17592186044416 ([]:List Int) a0).bind fun v2=> some v2))
def z6a (a0:List (List UInt8)) (s1:Int × Int):Option (Step (Int × Int) Int):=
 (bif decide (s1.2 < (a0.length:Int)) then (idx a0 s1.2).bind fun v5=> (bif decide ((w64 (s1.1+(v5.length:Int))) < 0) then none else some (.cont ((w64 (s1.1+(v5.length:Int))),(w64 (s1.2+1))))) else some (.out s1.1))
def z7a (a0:List (List UInt8)) (s14:Int × (List UInt8)):Option (Step (Int × (List UInt8)) (List UInt8)):=
 (bif decide (s14.1 < (a0.length:Int)) then (idx a0 s14.1).bind fun v18=> (app 140737488355328 s14.2 v18).bind fun v20=> some (.cont ((w64 (s14.1+1)),v20)) else some (.out s14.2))
def koa (a0:List (List UInt8)) (s22:Int × (List UInt8)):Option (Step (Int × (List UInt8)) (List UInt8)):=
 (bif decide (s22.1 < (a0.length:Int)) then (idx a0 s22.1).bind fun v26=> (app 140737488355328 s22.2 v26).bind fun v28=> some (.cont ((w64 (s22.1+1)),v28)) else some (.out s22.2))
noncomputable def kla (a0:List (List UInt8)):Option (List UInt8):=
 (iter (z6a a0) ((0,0))).bind fun b2=> (bif decide (b2 < 0) then none else (bif decide (0 < (w64 (b2 - (w64 (0 - 0))))) then (zrep 140737488355328 ((w64 (b2 - (w64 (0 - 0))))) ((0:UInt8):UInt8)).bind fun v10=> (cut v10 0 0).bind fun v12=> (iter (z7a a0) ((0,v12))).bind fun b15=> some b15 else (iter (koa a0) ((0,([]:List UInt8)))).bind fun b23=> some b23))
noncomputable def k5a (s17:zda):Option (Step zda zda):=
 ((bif (!s17.Client.Done) then (kwa s17).bind fun v22=> some ((v22.1,v22.2)) else some ((false,s17))):Option (Bool × zda)).bind fun (j20:Bool × zda)=> (bif j20.1 then some (.cont j20.2) else some (.out j20.2))
noncomputable def v7a (a0:zla) (a1:List UInt8):Option (zla × (List UInt8) × zra):=
 (vza a0).bind fun v1=> (z8a v1).bind fun v3=> (bif v3 then some (((zla.mk (([]:Str)) ((zVa.mk ((zxa.mk (([]:Str)) ([]) (([]:Str)))) ((zqa.mk ([]) ([]))))) false ([]) 0 false false ([])), [],v1)) else (bif decide (40000 < (w64 ((a0.Buffer.length:Int)+(a1.length:Int)))) then (zpa 1 ((-1))).bind fun v7=> some (((zla.mk (([]:Str)) ((zVa.mk ((zxa.mk (([]:Str)) ([]) (([]:Str)))) ((zqa.mk ([]) ([]))))) false ([]) 0 false false ([])), [],v7)) else (qra a0.Mail).bind fun v9=> (kma a0.Results).bind fun v11=> (kla (([a0.Buffer,a1]:List (List UInt8)))).bind fun v13=> (qza v9.Message).bind fun v15=> (iter (k5a) ((zda.mk ((zla.mk a0.Name v9 a0.Pipelined v13 a0.Expected a0.Whole a0.Done v11)) v15.1 v15.2 (([]:List UInt8))))).bind fun b18=> (((nilE b18.Client.Buffer.isEmpty (some ([])) ((app 140737488355328 ([]:List UInt8) b18.Client.Buffer).bind fun v28=> some v28)):Option (List UInt8)).bind fun (j26:List UInt8)=> (bif b18.Client.Done then some ((zda.mk ((zla.mk b18.Client.Name b18.Client.Mail b18.Client.Pipelined ([]) b18.Client.Expected b18.Client.Whole b18.Client.Done b18.Client.Results)) b18.content b18.chunk b18.out)) else some ((zda.mk ((zla.mk b18.Client.Name b18.Client.Mail b18.Client.Pipelined j26 b18.Client.Expected b18.Client.Whole b18.Client.Done b18.Client.Results)) b18.content b18.chunk b18.out))):Option zda).bind fun (j25:zda)=> (zUa).bind fun v31=> some ((j25.Client,j25.out,v31))))
noncomputable def wma (a0:zla):Option (zla × zra):=
 (vza a0).bind fun v1=> (z8a v1).bind fun v3=> (bif v3 then some (((zla.mk (([]:Str)) ((zVa.mk ((zxa.mk (([]:Str)) ([]) (([]:Str)))) ((zqa.mk ([]) ([]))))) false ([]) 0 false false ([])),v1)) else (qra a0.Mail).bind fun v6=> (kma a0.Results).bind fun v8=> (kua ((zda.mk ((zla.mk a0.Name v6 a0.Pipelined ([]) a0.Expected a0.Whole a0.Done v8)) ([]) false (([]:List UInt8))))).bind fun v10=> (zUa).bind fun v12=> some ((v10.Client,v12)))
def Kfa (a0:List Int) (a1:List Int) (s2:Int):Option (Step Int (Unit ⊕ Bool)):=
 (bif decide (s2 < (a0.length:Int)) then (idx a0 s2).bind fun v8=> (idx a1 s2).bind fun v10=> (bif (v8 !=v10) then some (.out (.inr false)) else some (.cont (w64 (s2+1)))) else some (.out (.inl (()))))
noncomputable def VWa (a0:List Int) (a1:List Int):Option Bool:=
 (bif ((a0.length:Int) !=(a1.length:Int)) then some false else (iter (Kfa a0 a1) 0).bind (Sum.elim (fun b3=> some true) (fun b4=> some b4)))
noncomputable def k3a (a0:zla) (a1:zla):Option Bool:=
 ((bif (a0.Name==a1.Name) then (bif (a0.Pipelined==a1.Pipelined) then (bif (a0.Expected==a1.Expected) then (bif (a0.Whole==a1.Whole) then (bif (a0.Done==a1.Done) then (bif (a0.Buffer==a1.Buffer) then (VWa a0.Results a1.Results).bind fun v8=> (bif v8 then (yHa a0.Mail a1.Mail).bind fun v11=> some v11 else some false) else some false) else some false) else some false) else some false) else some false) else some false):Option Bool).bind fun (j1:Bool)=> some j1
def y3a (a0:List Str) (s1:Int × (List zca)):Option (Step (Int × (List zca)) (List zca)):=
 (bif decide (s1.1 < (a0.length:Int)) then (idx a0 s1.1).bind fun v5=> (app 5864062014805 s1.2 (([(zca.mk v5 1)]:List zca))).bind fun v7=> some (.cont ((w64 (s1.1+1)),v7)) else some (.out s1.2))
noncomputable def Kga (a0:List Str):Option zVa:=
 (iter (y3a a0) ((0,([]:List zca)))).bind fun b2=> some ((zVa.mk ((zxa.mk (([115,64,120]:Str)) b2 (([55]:Str)))) ((zqa.mk ([]) ([])))))
noncomputable def Kha:Option Bool:=
 (Kga (([([97,64,121]:Str)]:List Str))).bind fun v1=> (vya (([99]:Str)) v1 false).bind fun v3=> (v7a v3.1 (([(50:UInt8),(50:UInt8),(48:UInt8),(32:UInt8),(109:UInt8),(120:UInt8),(13:UInt8),(10:UInt8)]:List UInt8))).bind fun v5=> (v7a v5.1 (([(50:UInt8),(53:UInt8),(48:UInt8),(45:UInt8),(109:UInt8),(120:UInt8),(13:UInt8),(10:UInt8),(50:UInt8),(53:UInt8),(48:UInt8),(32:UInt8),(111:UInt8),(107:UInt8),(13:UInt8),(10:UInt8)]:List UInt8))).bind fun v7=> (wma v7.1).bind fun v9=> ((bif (v3.2.Code==0) then (bif (v5.2.2.Code==0) then (bif (v7.2.2.Code==0) then (bif (v9.2.Code==0) then (bif (v5.2.1==([104,101,108,108,111,32,99,13,10]:Str)) then (bif (v7.2.1==([109,97,105,108,32,60,115,64,120,62,32,115,105,122,101,61,50,13,10]:Str)) then (bif (v5.1.Expected==1) then (bif v9.1.Done then (VWa v9.1.Results (([2]:List Int))).bind fun v20=> some v20 else some false) else some false) else some false) else some false) else some false) else some false) else some false) else some false):Option Bool).bind fun (j11:Bool)=> some j11
noncomputable def kza (a0:Str) (a1:zVa) (a2:Bool):Option Bool:=
 (vya a0 a1 a2).bind fun v1=> ((j6a a0).bind fun v4=> (bif (!v4) then (R_At 10 ((-20))).bind fun v7=> some ((v7.Code,v7.Index)) else (wSa a1).bind fun v9=> some ((v9.Code,v9.Index))):Option (Int × Int)).bind fun (j3:Int × Int)=> ((bif (j3.1==0) then (zmk 17592186044416 ((a1.Envelope.To.length:Int)) (0:Int)).bind fun v13=> some ((zla.mk a0 a1 a2 ([]) 0 false false v13)) else some ((zla.mk (([]:Str)) ((zVa.mk ((zxa.mk (([]:Str)) ([]) (([]:Str)))) ((zqa.mk ([]) ([]))))) false ([]) 0 false false ([])))):Option zla).bind fun (j11:zla)=> ((Kha).bind fun v16=> (bif v16 then (bif (wqa [(v1.2.Code==j3.1),(v1.2.Index==j3.2)]) then (k3a v1.1 j11).bind fun v20=> some v20 else some false) else some false):Option Bool).bind fun (j15:Bool)=> some j15
end Go.Proofs.YtjnmamghadpedaaGreatDoor
namespace Go.Proofs.YtjnmamghadpedaaGreatDoor
open Go.RowKit
theorem VXa (a b:Nat) (h:a+b≤9223372036854775807):w64 ((a:Int)+(b:Int))=((a+b:Nat):Int):=by
 rw [kUa (by omega) (by omega)];simp
theorem w64_nl (a k:Nat) (h:a+OfNat.ofNat k≤9223372036854775807):w64 ((a:Int)+(no_index (OfNat.ofNat k:Int)))=((a+OfNat.ofNat k:Nat):Int):=by
 have e:(OfNat.ofNat k:Int)=((OfNat.ofNat k:Nat):Int):=rfl
 rw [e];exact VXa a _ h
theorem w64_ns (a b:Nat) (h:b≤a) (ha:a≤9223372036854775807):w64 ((a:Int) - (b:Int))=((a - b:Nat):Int):=by
 rw [kUa (by omega) (by omega)];omega
theorem Yna (a:Nat) (h:a≤9223372036854775807):w64 (a:Int)=(a:Int):=kUa (by omega) (by omega)
theorem wWa (c:UInt8) (k:Nat) (hk:OfNat.ofNat k < 256):((c.toNat:Int)==no_index (OfNat.ofNat k:Int))=(c==OfNat.ofNat k):=by
 have e:(OfNat.ofNat k:Int)=((OfNat.ofNat k:Nat):Int):=rfl
 have h2:(OfNat.ofNat k:UInt8).toNat=(OfNat.ofNat k:Nat):=by
  show (UInt8.ofNat k).toNat=k
  rw [UInt8.toNat_ofNat'];exact Nat.mod_eq_of_lt hk
 rw [Bool.eq_iff_iff,beq_iff_eq,beq_iff_eq,←UInt8.toNat_inj,h2,e]
 omega
theorem KKa (c:UInt8) (k:Nat) (hk:OfNat.ofNat k < 256):((c.toNat:Int) !=no_index (OfNat.ofNat k:Int))=(c !=OfNat.ofNat k):=by
 unfold bne;rw [wWa c k hk]
section
variable {α:Type}
theorem jLa (l:List α) (i:Nat):idx l (i:Int)=l[i]? :=by unfold idx;rw [if_pos (by omega)];simp
theorem VYa {l:List α} {i:Nat} (h:i < l.length):idx l (i:Int)=some l[i]:=by rw [jLa];exact List.getElem?_eq_getElem h
theorem idx_app (p:List α) (x:α) (r:List α):idx (p++x::r) (p.length:Int)=some x:=by rw [jLa];simp
theorem J5a {l:List α} {a b:Nat} (h1:a≤b) (h2:b≤l.length):cut l (a:Int) (b:Int)=some ((l.drop a).take (b - a)):=by
 unfold cut;rw [if_pos (by omega)];simp
theorem jca {l:List α} {a:Nat} (h1:a≤l.length):cut l (a:Int) (l.length:Int)=some (l.drop a):=by
 rw [J5a h1 (Nat.le_refl _)];rw [List.take_of_length_le (by simp)]
theorem K9a {l:List α} {b:Nat} (h2:b≤l.length):cut l 0 (b:Int)=some (l.take b):=by
 have:=J5a (l:=l) (a:=0) (b:=b) (by omega) h2
 simpa using this
theorem qia {lim:Nat} {l xs:List α} (h:l.length+xs.length≤lim):app lim l xs=some (l++xs):=by unfold app;rw [if_pos h]
theorem wna {a b:Str} (h:a.length+b.length≤9223372036854775807):cat a b=some (a++b):=by unfold cat;rw [if_pos h]
end
section
variable {A R:Type} {body:A→Option (Step A R)}
theorem WDa (Inv:A→Prop) (m:A→Nat) (Post:A→R→Prop)
  (h:∀s,Inv s→(∃r,body s=some (.out r)∧Post s r)∨∃s',body s=some (.cont s')∧Inv s' ∧m s' < m s∧∀r,Post s' r→Post s r):
  ∀s,Inv s→∃r,iter body s=some r∧Post s r:=by
 intro s
 induction hn:m s using Nat.strongRecOn generalizing s with
 | _ n ih=>
  intro hi
  rcases h s hi with ⟨r,h1,h2⟩ | ⟨s',h1,h2,h3,h4⟩
  ·exact ⟨r,zIa h1,h2⟩
  ·obtain ⟨r,h5,h6⟩:=ih (m s') (by omega) s' rfl h2
   exact ⟨r,(zXa h1).trans h5,h4 r h6⟩
theorem k9b {α S:Type} (l:List α) (enc:Nat→S→A) (spec:Nat→List α→S→R)
  (h0:∀s,body (enc l.length s)=some (.out (spec l.length [] s)))
  (h1:∀p x r s,l=p++x::r→(body (enc p.length s)=some (.out (spec p.length (x::r) s)))∨∃s',body (enc p.length s)=some (.cont (enc (p.length+1) s'))∧spec p.length (x::r) s=spec (p.length+1) r s'):
  ∀{s0:A} (s:S) (_:s0=enc 0 s),iter body s0=some (spec 0 l s):=by
 have key:∀r p s,l=p++r→iter body (enc p.length s)=some (spec p.length r s):=by
  intro r
  induction r with
  | nil=>
   intro p s h
   have:p=l:=by simp [h]
   subst this
   exact zIa (h0 s)
  | cons x r ih=>
   intro p s h
   rcases h1 p x r s h with hb | ⟨s',hb,hs⟩
   ·exact zIa hb
   ·rw [zXa hb,hs]
    have:=ih (p++ [x]) s' (by simp [h])
    simpa using this
 rintro _ s rfl
 exact key l [] s rfl
theorem zUb {α S:Type} (l:List α) (enc:Nat→S→A) (spec:Nat→List α→S→R) (Inv:Nat→List α→S→Prop)
  (h0:∀s,Inv l.length [] s→body (enc l.length s)=some (.out (spec l.length [] s)))
  (h1:∀p x r s,l=p++x::r→Inv p.length (x::r) s→(body (enc p.length s)=some (.out (spec p.length (x::r) s)))∨∃s',body (enc p.length s)=some (.cont (enc (p.length+1) s'))∧spec p.length (x::r) s=spec (p.length+1) r s' ∧Inv (p.length+1) r s'):
  ∀{s0:A} (s:S) (_:s0=enc 0 s) (_:Inv 0 l s),iter body s0=some (spec 0 l s):=by
 have key:∀r p s,l=p++r→Inv p.length r s→iter body (enc p.length s)=some (spec p.length r s):=by
  intro r
  induction r with
  | nil=>
   intro p s h hi
   have:p=l:=by simp [h]
   subst this
   exact zIa (h0 s hi)
  | cons x r ih=>
   intro p s h hi
   rcases h1 p x r s h hi with hb | ⟨s',hb,hs,hi'⟩
   ·exact zIa hb
   ·rw [zXa hb,hs]
    have:=ih (p++ [x]) s' (by simp [h]) (by simpa using hi')
    simpa using this
 rintro _ s rfl hi
 exact key l [] s rfl hi
end
end Go.Proofs.YtjnmamghadpedaaGreatDoor
namespace Go.Proofs.YtjnmamghadpedaaGreatDoor
open Go.RowKit
section
variable {α R O A S:Type}
def zKa (q:Nat→α→Option R):Nat→List α→Option R
 | _, []=> none
 | i,x::r=> match q i x with | some y=> some y | none=> zKa q (i+1) r
theorem zHa (l:List α) (q:Nat→α→Option R) (oN:O) (oS:R→O) {body:Int→Option (Step Int O)} (hl:body (l.length:Int)=some (.out oN))
  (hs:∀(i:Nat) x,l[i]? =some x→body (i:Int)=some ((q i x).elim (.cont ((i+1:Nat):Int)) fun r=> .out (oS r))):
  iter body 0=some ((zKa q 0 l).elim oN oS):=by
 have key:∀r p,l=p++r→iter body (p.length:Int)=some ((zKa q p.length r).elim oN oS):=by
  intro r
  induction r with
  | nil=>
     intro p h;have:p=l:=by simp [h]
     subst this;exact zIa hl
  | cons x r ih=>
   intro p h
   have hx:=hs p.length x (by simp [h])
   unfold zKa
   cases hq:q p.length x with
   | some y=> rw [hq] at hx;exact zIa hx
   | none=>
    rw [hq] at hx
    rw [zXa hx]
    have:=ih (p++ [x]) (by simp [h])
    simpa using this
 exact key l [] rfl
theorem zVb (l:List α) (enc:Int→S→A) (f:Nat→S→α→S) (out:S→O) (Inv:Nat→S→Prop) {body:A→Option (Step A O)}
  (hl:∀s,Inv l.length s→body (enc l.length s)=some (.out (out s)))
  (hs:∀(i:Nat) x s,l[i]? =some x→Inv i s→body (enc i s)=some (.cont (enc ((i+1:Nat):Int) (f i s x)))∧Inv (i+1) (f i s x)) (s:S) (h0:Inv 0 s):
  ∃t,iter body (enc 0 s)=some (out t)∧Inv l.length t∧t=(l.zipIdx.foldl (fun s p=> f p.2 s p.1) s):=by
 have key:∀r p s,l=p++r→Inv p.length s→∃t,iter body (enc (p.length:Int) s)=some (out t)∧Inv l.length t∧t=((r.zipIdx p.length).foldl (fun s p=> f p.2 s p.1) s):=by
  intro r
  induction r with
  | nil=>
    intro p s h hi;have:p=l:=by simp [h]
    subst this;exact ⟨s,zIa (hl s hi),hi,rfl⟩
  | cons x r ih=>
   intro p s h hi
   obtain ⟨h1,h2⟩:=hs p.length x s (by simp [h]) hi
   rw [zXa h1]
   obtain ⟨t,h3,h4,h5⟩:=ih (p++ [x]) (f p.length s x) (by simp [h]) (by simpa using h2)
   refine ⟨t,by simpa using h3,h4, ?_⟩
   rw [h5];simp
 exact key l [] s rfl h0
theorem Yoa (f:S→α→S) (l:List α):∀(n:Nat) (s:S),(l.zipIdx n).foldl (fun s p=> f s p.1) s=l.foldl f s:=by
 induction l with
 | nil=> intro n s;rfl
 | cons x r ih=> intro n s;simp [ih]
theorem Ypa (l:List α) (enc:Int→S→A) (f:S→α→S) (out:S→O) (Inv:Nat→S→Prop) {body:A→Option (Step A O)}
  (hl:∀s,Inv l.length s→body (enc l.length s)=some (.out (out s)))
  (hs:∀(i:Nat) x s,l[i]? =some x→Inv i s→body (enc i s)=some (.cont (enc ((i+1:Nat):Int) (f s x)))∧Inv (i+1) (f s x)) (s:S) (h0:Inv 0 s):
  iter body (enc 0 s)=some (out (l.foldl f s))∧Inv l.length (l.foldl f s):=by
 obtain ⟨t,h1,h2,h3⟩:=zVb l enc (fun _=> f) out Inv hl hs s h0
 have:t=l.foldl f s:=by rw [h3];exact Yoa f l 0 s
 subst this
 exact ⟨h1,h2⟩
theorem wHa (c:α→Bool) (r:R) (l:List α) (n:Nat):zKa (fun _ x=> if c x then some r else none) n l=if l.any c then some r else none:=by
 induction l generalizing n with
 | nil=> rfl
 | cons x l ih=> unfold zKa;cases h:c x <;> simp [h,ih]
theorem vsa {q:Nat→α→Option R} {l:List α} {n:Nat}:zKa q n l=none↔∀(i:Nat) x,l[i]? =some x→q (n+i) x=none:=by
 induction l generalizing n with
 | nil=> simp [zKa]
 | cons x l ih=>
  unfold zKa
  cases h:q n x with
  | some y=>
   simp only [reduceCtorEq,false_iff]
   intro hh
   have:=hh 0 x rfl
   rw [Nat.add_zero,h] at this;cases this
  | none=>
   rw [ih]
   constructor
   ·intro hh i y hy
    cases i with
    | zero=> simp at hy;subst hy;exact h
    | succ i=> rw [show n+(i+1)=n+1+i by omega];exact hh i y (by simpa using hy)
   ·intro hh i y hy
    rw [show n+1+i=n+(i+1) by omega];exact hh (i+1) y (by simpa using hy)
theorem y4a {q:Nat→α→Option R} {l:List α} {n:Nat} {r:R} (h:zKa q n l=some r):∃(i:Nat) (x:α),l[i]? =some x∧q (n+i) x=some r:=by
 induction l generalizing n with
 | nil=> cases h
 | cons x l ih=>
  unfold zKa at h
  cases hq:q n x with
  | some y=> rw [hq] at h;cases h;exact ⟨0,x,rfl,hq⟩
  | none=>
   rw [hq] at h
   obtain ⟨i,y,h1,h2⟩:=ih h
   exact ⟨i+1,y,by simpa using h1,by rw [show n+(i+1)=n+1+i by omega];exact h2⟩
theorem kia {l:List α} {i:Nat} {x:α} (h:l[i]? =some x):i < l.length:=(List.getElem?_eq_some_iff.1 h).1
theorem kLa {l:List α} {i:Nat} {x:α} (h:l[i]? =some x):decide ((i:Int) < (l.length:Int))=true:=by have:=kia h;simp;omega
theorem kca (l:List α):decide ((l.length:Int) < (l.length:Int))=false:=by simp
theorem z3a {l:List α} {i:Nat} {x:α} (h:l[i]? =some x):idx l (i:Int)=some x:=by rw [jLa];exact h
end
end Go.Proofs.YtjnmamghadpedaaGreatDoor
namespace Go.Proofs.YtjnmamghadpedaaGreatDoor
open Go.RowKit
theorem QOa {α:Type} (c:α→Bool) (l:List α):∀n:Nat,decide ((0:Int)≤(zKa (fun i x=> if c x then some ((i:Nat):Int) else none) n l).getD (-1))=l.any c:=by
 induction l with
 | nil=> intro n;rfl
 | cons x l ih=>
  intro n
  unfold zKa
  cases hc:c x with
  | true=> simp [hc]
  | false=> simp only [Bool.false_eq_true,if_false,List.any_cons,hc,Bool.false_or];exact ih (n+1)
theorem Qua (o:Option Int):Sum.elim (fun _=> some (-1)) (fun b=> some b) (o.elim (Sum.inl ()) Sum.inr:Unit ⊕ Int)=some (o.getD (-1)):=by cases o <;> rfl
theorem sc (i:Nat) (h:i < 9223372036854775807):w64 ((i:Int)+1)=((i+1:Nat):Int):=by rw [show ((i:Int)+1)=((i+1:Nat):Int) by omega,Yna _ (by omega)]
theorem bkL_pos {T:Type} (bk:T→Nat) (l:List T):1≤bkL bk l:=by
 induction l with
 | nil=> simp [bkL]
 | cons y l ih=> unfold bkL;omega
theorem qab {T:Type} {bk:T→Nat} {l:List T} {x:T} (h:x∈l):bk x+1≤bkL bk l:=by
 induction l with
 | nil=> cases h
 | cons y l ih=>
  unfold bkL
  have hp:=bkL_pos bk l
  rcases List.mem_cons.1 h with rfl | h
  ·omega
  ·have:=ih h;omega
theorem Jya {T:Type} {bk:T→Nat} (hb:∀x,1≤bk x) (l:List T):l.length+1≤bkL bk l:=by
 induction l with
 | nil=> simp [bkL]
 | cons y l ih=> unfold bkL;have:=hb y;simp;omega
section
variable {α:Type}
end
theorem zWb {V:Type} (m:List (Str × V)) (k:Str) (v:V) (x:Str):mget (mput m k v) x=if k==x then some v else mget m x:=by
 induction m with
 | nil=> rfl
 | cons p m ih=>
  obtain ⟨k',v'⟩:=p
  unfold mput
  by_cases h:k' =k
  ·subst h
   simp only [beq_self_eq_true,if_true,mget]
   cases k' ==x <;> simp
  ·have h1:(k' ==k)=false:=by simpa using h
   rw [h1]
   simp only [Bool.false_eq_true,if_false,mget]
   rw [ih]
   by_cases h2:k' =x
   ·subst h2
    have:(k==k')=false:=by simpa using fun h' => h h'.symm
    simp [this]
   ·have:(k' ==x)=false:=by simpa using h2
    rw [this];simp
section
variable {α A S O:Type}
end
end Go.Proofs.YtjnmamghadpedaaGreatDoor
namespace Go.Proofs.YtjnmamghadpedaaGreatDoor
open Go.RowKit
set_option maxHeartbeats 1000000
theorem yJa {u:Nat} (h:u < 10):Lib.decDigits u= [UInt8.ofNat (48+u)]:=by rw [Lib.decDigits,dif_pos h]
theorem decD_big {u:Nat} (h:¬u < 10):Lib.decDigits u=Lib.decDigits (u / 10)++Lib.decDigits (u % 10):=by
 rw [Lib.decDigits,dif_neg h,yJa (show u % 10 < 10 by omega)]
theorem WEa:∀(k u:Nat),u < 10 ^ (k+1)→(Lib.decDigits u).length≤k+1
 | 0,u,h=> by rw [yJa (by simpa using h)];simp
 | k+1,u,h=> by
  by_cases h10:u < 10
  ·rw [yJa h10];simp
  ·have:=WEa k (u / 10) (by rw [Nat.pow_succ] at h;omega)
   rw [decD_big h10,yJa (show u % 10 < 10 by omega)]
   simp;omega
theorem QPa (u:Nat) (h:u≤9223372036854775807):kKa (u:Int)=some (Lib.decDigits u):=by
 unfold kKa
 rw [if_pos (by omega),Lib.itoa_nonneg]
end Go.Proofs.YtjnmamghadpedaaGreatDoor
namespace Go.Proofs.YtjnmamghadpedaaGreatDoor
open Go.RowKit
set_option maxHeartbeats 1000000
def QQa (c:UInt8):Bool:=(decide (97≤c) && decide (c≤122)) || (decide (65≤c) && decide (c≤90)) || (decide (48≤c) && decide (c≤57))
def wwa (c:UInt8):Bool:=(decide (97≤c) && decide (c≤122)) || (decide (48≤c) && decide (c≤57)) || c==45 || c==46
def Qka (c:UInt8):Bool:=QQa c || c==45 || c==95 || c==46 || c==43 || c==61
def jda:Bool→Str→Bool
 | p, []=> !p
 | p,c::r=> if c=46 then !p && jda true r else jda false r
def domP (s:Str):Bool:=decide (s.length≤60) && s.all wwa && jda true s
def atP (s:Str):Nat:=s.findIdx (· ==64)
def vTa (s:Str):Bool:=decide (atP s < s.length) && decide (1≤atP s) && decide (atP s≤60) && (s.take (atP s)).all Qka && domP (s.drop (atP s+1))
theorem yKa (k:Nat) (c:UInt8) (hk:OfNat.ofNat k < 256):decide ((no_index (OfNat.ofNat k:Int))≤(c.toNat:Int))=decide ((OfNat.ofNat k:UInt8)≤c):=by
 have e:(OfNat.ofNat k:Int)=((OfNat.ofNat k:Nat):Int):=rfl
 have h2:(OfNat.ofNat k:UInt8).toNat=(OfNat.ofNat k:Nat):=by
  show (UInt8.ofNat k).toNat=k
  rw [UInt8.toNat_ofNat'];exact Nat.mod_eq_of_lt hk
 rw [Bool.eq_iff_iff,decide_eq_true_eq,decide_eq_true_eq,UInt8.le_iff_toNat_le,h2,e];omega
theorem yLa (k:Nat) (c:UInt8) (hk:OfNat.ofNat k < 256):decide ((c.toNat:Int)≤(no_index (OfNat.ofNat k:Int)))=decide (c≤(OfNat.ofNat k:UInt8)):=by
 have e:(OfNat.ofNat k:Int)=((OfNat.ofNat k:Nat):Int):=rfl
 have h2:(OfNat.ofNat k:UInt8).toNat=(OfNat.ofNat k:Nat):=by
  show (UInt8.ofNat k).toNat=k
  rw [UInt8.toNat_ofNat'];exact Nat.mod_eq_of_lt hk
 rw [Bool.eq_iff_iff,decide_eq_true_eq,decide_eq_true_eq,UInt8.le_iff_toNat_le,h2,e];omega
theorem yta (a b c:Int):R_In a b c=some (decide (b≤a) && decide (a≤c)):=by
 unfold R_In;cases decide (b≤a) <;> rfl
theorem yma (c:UInt8):qba c=some (QQa c):=by
 unfold qba QQa
 simp only [yta,Option.bind_some,yKa 97 c (by decide),yLa 122 c (by decide),yKa 65 c (by decide),yLa 90 c (by decide),yKa 48 c (by decide),yLa 57 c (by decide)]
 generalize (decide ((97:UInt8)≤c) && decide (c≤122))=x
 generalize (decide ((65:UInt8)≤c) && decide (c≤90))=y
 cases x <;> cases y <;> simp
theorem jMa (c:UInt8):vva c=some (QQa c):=by
 unfold vva QQa
 simp only [yKa 97 c (by decide),yLa 122 c (by decide),yKa 65 c (by decide),yLa 90 c (by decide),yKa 48 c (by decide),yLa 57 c (by decide)]
 cases decide ((97:UInt8)≤c) <;> cases decide (c≤122) <;> cases decide ((65:UInt8)≤c) <;> cases decide (c≤90) <;> cases decide ((48:UInt8)≤c) <;> cases decide (c≤57) <;> rfl
def wra (s:Str) (i:Nat):Bool:=if i=0 then true else s[i - 1]? ==some 46
def v8a:Bool→Str→Bool
 | _, []=> true
 | p,c::r=> if c=46 then !p && !r.isEmpty && v8a true r else wwa c && v8a false r
theorem Yqa (p:Bool) (c:UInt8) (r:Str):v8a p (c::r)=if c=46 then !p && !r.isEmpty && v8a true r else wwa c && v8a false r:=rfl
theorem zXb (s:Str) (p:Bool) (h:s≠ []∨p=false):v8a p s=(s.all wwa && jda p s):=by
 induction s generalizing p with
 | nil=> simp [v8a,jda];rcases h with h | h <;> simp_all
 | cons c r ih=>
  unfold v8a jda
  by_cases hc:c=46
  ·subst hc
   simp only [if_true,List.all_cons,show wwa 46=true by decide,Bool.true_and]
   cases r with
   | nil=> simp [jda]
   | cons d r=>
    rw [ih true (.inl (by simp))]
    cases p <;> simp
  ·rw [if_neg hc,if_neg hc]
   rw [ih false (.inr rfl),List.all_cons,Bool.and_assoc]
theorem QRa (s:Str) (hs:s.length≤9223372036854775806):iter (qpa s) 0=some (if v8a true s then .inl () else .inr false):=by
 have:=k9b (body:=qpa s) s (fun i (_:Unit)=> (i:Int)) (fun i r _=> if v8a (wra s i) r then .inl () else .inr false) (fun _=> by
   unfold qpa
   rw [kca];simp [v8a]) (fun p c r _ h=> ?_) (s0:=0) () rfl
 ·simpa [wra] using this
 ·have hc:s[p.length]? =some c:=by simp [h]
  have hidx:=z3a hc
  have hlen:s.length=p.length+r.length+1:=by rw [h];simp;omega
  have e1:w64 ((s.length:Int) - 1)=((s.length - 1:Nat):Int):=by rw [kUa (by omega) (by omega)];omega
  have e2:w64 ((p.length:Int)+1)=((p.length+1:Nat):Int):=by rw [show ((p.length:Int)+1)=((p.length+1:Nat):Int) by omega,Yna _ (by omega)]
  have hbody:qpa s (p.length:Int)=some (if c=46 then (if wra s p.length || r.isEmpty then .out (.inr false) else .cont ((p.length+1:Nat):Int)) else if wwa c then .cont ((p.length+1:Nat):Int) else .out (.inr false)):=by
   unfold qpa
   rw [kLa hc,hidx]
   simp only [cond_true,Option.bind_some,yta,wWa c 46 (by decide),KKa c 45 (by decide),KKa c 46 (by decide),yKa 97 c (by decide),yLa 122 c (by decide),yKa 48 c (by decide),yLa 57 c (by decide),e1,e2]
   by_cases h46:c=46
   ·subst h46
    have hsm:(!(decide ((97:UInt8)≤46) && decide ((46:UInt8)≤122)))=true:=by decide
    have hsm2:(!(decide ((48:UInt8)≤46) && decide ((46:UInt8)≤57)))=true:=by decide
    simp only [beq_self_eq_true,cond_true,hsm,hsm2,if_true,bne_self_eq_false]
    by_cases h0:p.length=0
    ·simp [h0,wra]
    ·have h0' :((p.length:Int)==0)=false:=by rw [beq_eq_false_iff_ne];omega
     by_cases hl:r= []
     ·subst hl
      have:((p.length:Int)==((s.length - 1:Nat):Int))=true:=by rw [hlen];simp
      simp [h0',this]
     ·have hr:r.isEmpty=false:=by simpa using hl
      have hrl:0 < r.length:=List.length_pos_iff.2 hl
      have:((p.length:Int)==((s.length - 1:Nat):Int))=false:=by rw [hlen];simp;omega
      have e3:w64 ((p.length:Int) - 1)=((p.length - 1:Nat):Int):=by rw [kUa (by omega) (by omega)];omega
      have hlt:p.length - 1 < s.length:=by omega
      simp only [h0',this,cond_false,e3,VYa hlt,Option.bind_some,hr,Bool.or_false,wra,if_neg h0,List.getElem?_eq_getElem hlt]
      rw [wWa _ 46 (by decide)]
      by_cases hd:s[p.length - 1]=46
      ·simp [hd]
      ·have:(s[p.length - 1]==46)=false:=by simpa using hd
       simp [this,hd]
   ·have h1:(c==46)=false:=by simpa using h46
    have h2:(c !=46)=true:=by simpa using h46
    simp only [h1,cond_false,if_neg h46,Option.bind_some,wwa,h2]
    by_cases ha:(decide ((97:UInt8)≤c) && decide (c≤122))=true
    ·simp [ha]
    ·have ha:(decide ((97:UInt8)≤c) && decide (c≤122))=false:=by simpa using ha
     by_cases hb:(decide ((48:UInt8)≤c) && decide (c≤57))=true
     ·simp [ha,hb]
     ·have hb:(decide ((48:UInt8)≤c) && decide (c≤57))=false:=by simpa using hb
      by_cases h45:c=45
      ·subst h45;simp [ha,hb]
      ·have:(c==45)=false:=by simpa using h45
       simp [ha,hb,this,bne]
  have hp1:wra s (p.length+1)=decide (c=46):=by
   unfold wra
   simp only [Nat.add_sub_cancel,Nat.add_one_ne_zero,if_false,hc]
   rw [Bool.eq_iff_iff];simp
  rw [hbody]
  rw [Yqa]
  by_cases h46:c=46
  ·subst h46
   simp only [if_true]
   cases hq:(wra s p.length || r.isEmpty) with
   | true=>
    left
    simp only [if_true]
    have:(!wra s p.length && !r.isEmpty && v8a true r)=false:=by
     cases hp:wra s p.length <;> simp_all
    rw [this];rfl
   | false=>
    right
    refine ⟨(),rfl, ?_⟩
    have h3:wra s p.length=false:=by cases hp:wra s p.length <;> simp_all
    have h4:r.isEmpty=false:=by cases hp:r.isEmpty <;> simp_all
    rw [h3,h4,hp1];simp
  ·simp only [if_neg h46]
   cases hq:wwa c with
   | true=> right;exact ⟨(),rfl,by rw [hp1];simp [h46]⟩
   | false=> left;simp
theorem WFa (s:Str) (hs:s.length≤9223372036854775806):yCa s=some (domP s):=by
 unfold yCa
 rw [QRa s hs]
 by_cases hn:s= []
 ·subst hn;simp [v8a,yta,domP,jda]
 ·rw [zXb s true (.inl hn)]
  have hpos:0 < s.length:=List.length_pos_iff.2 hn
  unfold domP
  cases h:(s.all wwa && jda true s) with
  | false=>
   rw [Bool.and_assoc,h];simp
  | true=>
   rw [Bool.and_assoc,h]
   simp only [if_true,Option.bind_some,yta,Bool.and_true,Sum.elim_inl,Option.some.injEq]
   rw [Bool.eq_iff_iff];simp;omega
theorem qbb (s:Str) (hs:s.length≤9223372036854775806):Yma s=some ((atP s:Nat):Int):=by
 unfold Yma
 rw [zHa s (fun i c=> if c==64 then some (i:Int) else none) (.inl ()) .inr]
 ·simp only [Option.bind_some]
  have key:∀(r:Str) (n:Nat),(zKa (fun i (c:UInt8)=> if c==64 then some (i:Int) else none) n r).getD ((n+r.length:Nat):Int)=((n+r.findIdx (· ==64):Nat):Int):=by
   intro r
   induction r with
   | nil=> intro n;simp [zKa]
   | cons c r ih=>
    intro n
    unfold zKa
    rw [List.findIdx_cons]
    cases hc:(c==64) with
    | true=> simp
    | false=>
     simp only [Bool.false_eq_true,if_false,cond_false]
     have:=ih (n+1)
     rw [show n+(c::r).length=n+1+r.length by simp;omega,show n+(r.findIdx (· ==64)+1)=n+1+r.findIdx (· ==64) by omega]
     exact this
  have:=key s 0
  rw [Nat.zero_add,Nat.zero_add] at this
  unfold atP
  rw [←this]
  cases zKa (fun i (c:UInt8)=> if c==64 then some (i:Int) else none) 0 s <;> rfl
 ·unfold Kea;rw [kca];rfl
 ·intro i c hc
  unfold Kea
  have hi:=kia hc
  rw [kLa hc,z3a hc]
  simp only [cond_true,Option.bind_some,wWa c 64 (by decide)]
  cases c==64 with
  | true=> rfl
  | false=>
   simp only [cond_false,Bool.false_eq_true,if_false]
   rw [show ((i:Int)+1)=((i+1:Nat):Int) by omega,Yna _ (by omega)];rfl
theorem Zua (s:Str) (hs:s.length≤9223372036854775806):v4a s=some (vTa s):=by
 have hat:atP s≤s.length:=List.findIdx_le_length
 unfold v4a
 rw [qbb s hs]
 simp only [Option.bind_some]
 have hloop:iter (q6a s (atP s:Int)) 0=some ((zKa (fun _ c=> if !Qka c then some false else none) 0 (s.take (atP s))).elim (.inl ()) .inr):=by
  refine zHa (s.take (atP s)) _ (Sum.inl ()) Sum.inr ?_ ?_
  ·have:((s.take (atP s)).length:Int)=(atP s:Int):=by simp;omega
   unfold q6a;rw [this];simp
  ·intro i c hc
   have hi:=kia hc
   simp at hi
   have hc2:s[i]? =some c:=by rw [List.getElem?_take_of_lt (by omega)] at hc;exact hc
   unfold q6a
   have:decide ((i:Int) < (atP s:Int))=true:=by simp;omega
   rw [this,z3a hc2]
   simp only [cond_true,Option.bind_some,yma,KKa c 45 (by decide),KKa c 95 (by decide),KKa c 46 (by decide),KKa c 43 (by decide),KKa c 61 (by decide)]
   rw [show ((i:Int)+1)=((i+1:Nat):Int) by omega,Yna _ (by omega)]
   unfold Qka
   cases QQa c <;> cases h1:(c==45) <;> cases h2:(c==95) <;> cases h3:(c==46) <;> cases h4:(c==43) <;> cases h5:(c==61) <;> simp [bne,h1,h2,h3,h4,h5]
 rw [hloop,wHa]
 unfold vTa
 have hall:(s.take (atP s)).any (fun c=> !Qka c)= !((s.take (atP s)).all Qka):=by simp [List.not_all_eq_any_not]
 rw [hall]
 cases hg:(s.take (atP s)).all Qka with
 | false=> simp
 | true=>
  simp only [Bool.not_true,Bool.false_eq_true,if_false,Option.bind_some,yta,Bool.and_true]
  by_cases h1:1≤atP s∧atP s≤60
  ·have e1:(decide ((1:Int)≤(atP s:Int)) && decide ((atP s:Int)≤60))=true:=by simp;omega
   rw [e1]
   by_cases h2:atP s < s.length
   ·have e2:decide ((atP s:Int) < (s.length:Int))=true:=by simp;omega
    rw [e2]
    simp only [cond_true]
    rw [show ((atP s:Int)+1)=((atP s+1:Nat):Int) by omega,Yna _ (by omega),jca (by omega)]
    simp only [Option.bind_some]
    rw [WFa _ (by simp;omega)]
    simp [h1,h2]
   ·have e2:decide ((atP s:Int) < (s.length:Int))=false:=by simp;omega
    rw [e2];simp [h2]
  ·have e1:(decide ((1:Int)≤(atP s:Int)) && decide ((atP s:Int)≤60))=false:=by
    rw [Bool.eq_false_iff];simp;omega
   rw [e1]
   simp only [cond_false,Option.bind_some]
   congr 1
   symm
   rcases Nat.lt_or_ge (atP s) 1 with h | h
   ·have:decide (1≤atP s)=false:=by simp;omega
    rw [this];simp
   ·have:decide (atP s≤60)=false:=by simp;omega
    rw [this];simp
theorem WGa (s:Str):∀p,jda p s=(!(p && (s.isEmpty || s.head? ==some 46)) && !(s.getLast? ==some 46) && !Lib.contains s [46,46]):=by
 induction s with
 | nil=> intro p;cases p <;> simp [jda,Lib.contains,Lib.index]
 | cons c r ih=>
  intro p
  have hcont:Lib.contains (c::r) [46,46]=((c==46 && r.head? ==some 46) || Lib.contains r [46,46]):=by
   unfold Lib.contains
   rw [Lib.index]
   have hpre:([46,46]:List UInt8).isPrefixOf (c::r)=(c==46 && r.head? ==some 46):=by
    cases r with
    | nil=> simp [List.isPrefixOf]
    | cons d r=> simp only [List.isPrefixOf,List.head?_cons,Bool.and_true];rw [Bool.eq_iff_iff];simp;constructor <;> rintro ⟨rfl,rfl⟩ <;> exact ⟨rfl,rfl⟩
   rw [hpre]
   have hg:=Lib.index_ge r [46,46]
   cases c==46 && r.head? ==some 46 with
   | true=> simp
   | false=>
    simp only [Bool.false_eq_true,if_false,Bool.false_or]
    by_cases h:Lib.index r [46,46]= -1
    ·simp [h]
    ·have:(Lib.index r [46,46]== -1)=false:=by simpa using h
     rw [this]
     simp only [Bool.false_eq_true,if_false]
     rw [Bool.eq_iff_iff];simp;omega
  rw [hcont,jda]
  have hlast:(c::r).getLast? =if r.isEmpty then some c else r.getLast? :=by cases r <;> simp
  rw [hlast]
  by_cases hc:c=46
  ·subst hc
   rw [if_pos rfl,ih true]
   cases r with
   | nil=> simp
   | cons d r=> cases p <;> cases hd:(d==46) <;> simp_all [Bool.and_comm,Bool.and_assoc,Bool.and_left_comm]
  ·have h1:(c==46)=false:=by simpa using hc
   have h2:(some c==some (46:UInt8))=false:=by simpa using hc
   rw [if_neg hc,ih false]
   cases r with
   | nil=> simp [h1,h2,Lib.contains,Lib.index,hc]
   | cons d r=> simp [h1,h2,hc]
theorem Zfa (s t:Str):ksa s t=some (t.isPrefixOf s):=by
 unfold ksa z9a
 by_cases h:t.length≤s.length
 ·have:decide ((t.length:Int)≤(s.length:Int))=true:=by simp;omega
  rw [this,K9a h]
  simp only [cond_true,Option.bind_some,Option.some.injEq]
  rw [Bool.eq_iff_iff,beq_iff_eq,List.isPrefixOf_iff_prefix,List.prefix_iff_eq_take]
  constructor <;> exact fun h=> h.symm
 ·have:decide ((t.length:Int)≤(s.length:Int))=false:=by simp;omega
  rw [this]
  simp only [cond_false,Option.bind_some,Option.some.injEq]
  symm
  rw [Bool.eq_false_iff]
  intro hp
  exact h (List.isPrefixOf_iff_prefix.1 hp).length_le
theorem Zga (s t:Str) (hs:s.length≤9223372036854775806):kta s t=some (t.isSuffixOf s):=by
 unfold kta kaa
 by_cases h:t.length≤s.length
 ·have:decide ((t.length:Int)≤(s.length:Int))=true:=by simp;omega
  rw [this,w64_ns _ _ h (by omega),jca (by omega)]
  simp only [cond_true,Option.bind_some,Option.some.injEq]
  rw [Bool.eq_iff_iff,beq_iff_eq,List.isSuffixOf_iff_suffix,List.suffix_iff_eq_drop]
  constructor <;> exact fun h=> h.symm
 ·have:decide ((t.length:Int)≤(s.length:Int))=false:=by simp;omega
  rw [this]
  simp only [cond_false,Option.bind_some,Option.some.injEq]
  symm
  rw [Bool.eq_false_iff]
  intro hp
  exact h (List.isSuffixOf_iff_suffix.1 hp).length_le
theorem dom_char (c:UInt8):((bif decide ((97:UInt8)≤c) then (bif decide (c≤122) then some true else (bif decide ((48:UInt8)≤c) then (bif decide (c≤57) then some true else (bif (c==45) then some true else some (c==46))) else (bif (c==45) then some true else some (c==46)))) else (bif decide ((48:UInt8)≤c) then (bif decide (c≤57) then some true else (bif (c==45) then some true else some (c==46))) else (bif (c==45) then some true else some (c==46)))):Option Bool)=some (wwa c):=by
 unfold wwa
 cases decide ((97:UInt8)≤c) <;> cases decide (c≤122) <;> cases decide ((48:UInt8)≤c) <;> cases decide (c≤57) <;> cases (c==45) <;> rfl
theorem Kia (s:Str) (hs:s.length < 4294967281):qLa s=some (domP s):=by
 have hloop:iter (k1a s) 0=some ((zKa (fun _ c=> if !wwa c then some () else none) 0 s).elim (.inl ()) .inr):=by
  refine zHa s _ (Sum.inl ()) Sum.inr ?_ ?_
  ·unfold k1a;rw [kca];rfl
  ·intro i c hc
   have hi:=kia hc
   unfold k1a
   rw [kLa hc,z3a hc]
   simp only [cond_true,Option.bind_some,wWa c 45 (by decide),wWa c 46 (by decide),yKa 97 c (by decide),yLa 122 c (by decide),yKa 48 c (by decide),yLa 57 c (by decide),dom_char]
   rw [show ((i:Int)+1)=((i+1:Nat):Int) by omega,Yna _ (by omega)]
   cases wwa c <;> rfl
 unfold qLa domP
 rw [hloop,wHa,WGa]
 by_cases hn:s= []
 ·subst hn;simp
 ·have h1:(s !=([]:Str))=true:=by simpa using hn
  rw [h1]
  simp only [cond_true]
  by_cases hl:s.length≤60
  ·have h2:decide ((s.length:Int)≤60)=true:=by simp;omega
   rw [h2]
   have hall:s.any (fun c=> !wwa c)= !(s.all wwa):=by simp [List.not_all_eq_any_not]
   rw [hall]
   cases hg:s.all wwa with
   | false=> simp [hl]
   | true=>
    simp only [Bool.not_true,Bool.false_eq_true,if_false,Option.elim,Option.bind_some,cond_true,Zfa,Zga s [46] (by omega),kEa,if_pos hs]
    have hp:([46]:Str).isPrefixOf s=(s.head? ==some 46):=by
     cases s with
     | nil=> rfl
     | cons d r=> simp only [List.isPrefixOf,List.head?_cons,Bool.and_true];rw [Bool.eq_iff_iff];simp;exact ⟨fun h=> h.symm,fun h=> h.symm⟩
    have hsf:([46]:Str).isSuffixOf s=(s.getLast? ==some 46):=by
     rw [Bool.eq_iff_iff,List.isSuffixOf_iff_suffix,beq_iff_eq]
     constructor
     ·rintro ⟨t,rfl⟩;simp
     ·intro h
      obtain ⟨ys,rfl⟩:=List.getLast?_eq_some_iff.1 h
      exact ⟨ys,rfl⟩
    have he:s.isEmpty=false:=by simpa using hn
    rw [hp,hsf,he]
    cases s.head? ==some 46 <;> cases s.getLast? ==some 46 <;> cases Lib.contains s [46,46] <;> simp [hl]
  ·have h2:decide ((s.length:Int)≤60)=false:=by simp;omega
   rw [h2];simp [hl]
theorem WHa (s:Str):Lib.index s [64]=if atP s < s.length then (atP s:Int) else -1:=by
 rw [Lib.index_one]
 unfold atP
 induction s with
 | nil=> rfl
 | cons c r ih=>
  rw [Lib.indexByte,List.findIdx_cons]
  cases hc:(c==64) with
  | true=> simp
  | false=>
   simp only [Bool.false_eq_true,if_false,cond_false,List.length_cons]
   rw [ih]
   by_cases h:r.findIdx (· ==64) < r.length
   ·simp only [if_pos h,if_pos (show r.findIdx (· ==64)+1 < r.length+1 by omega)]
    have:(((r.findIdx (· ==64):Nat):Int)== -1)=false:=by rw [beq_eq_false_iff_ne];omega
    rw [this];simp
   ·simp only [if_neg h,if_neg (show ¬(r.findIdx (· ==64)+1 < r.length+1) by omega)];simp
theorem cut_at (s:Str):Lib.cut s [64]=if atP s < s.length then (s.take (atP s),s.drop (atP s+1),true) else (s, [],false):=by
 unfold Lib.cut
 rw [WHa]
 by_cases h:atP s < s.length
 ·rw [if_pos h,if_pos h,if_pos (by omega)];simp
 ·rw [if_neg h,if_neg h,if_neg (by omega)]
def J6a (s:Str):Str × Str × Bool:=if atP s < s.length then (s.take (atP s),s.drop (atP s+1),vTa s) else (s, [],false)
theorem qcb (c:UInt8):(QQa c || decide (0≤Lib.indexByte [45,95,46,43,61] c))=Qka c:=by
 unfold Qka
 by_cases h1:c=45
 ·subst h1;decide
 by_cases h2:c=95
 ·subst h2;decide
 by_cases h3:c=46
 ·subst h3;decide
 by_cases h4:c=43
 ·subst h4;decide
 by_cases h5:c=61
 ·subst h5;decide
 rw [beq_eq_false_iff_ne.2 h1,beq_eq_false_iff_ne.2 h2,beq_eq_false_iff_ne.2 h3,beq_eq_false_iff_ne.2 h4,beq_eq_false_iff_ne.2 h5]
 simp [Lib.indexByte,Ne.symm h1,Ne.symm h2,Ne.symm h3,Ne.symm h4,Ne.symm h5]
theorem KLa (s:Str) (hs:s.length < 4294967281):q7a s=some (J6a s):=by
 have hloop:∀v:Str × Str × Bool,v.1.length < 4294967281→iter (qca v) 0=some ((zKa (fun _ c=> if !Qka c then some () else none) 0 v.1).elim (.inl ()) .inr):=by
  intro v hv
  refine zHa v.1 _ (Sum.inl ()) Sum.inr ?_ ?_
  ·unfold qca;rw [kca];rfl
  ·intro i c hc
   have hi:=kia hc
   unfold qca
   rw [kLa hc,z3a hc]
   simp only [cond_true,Option.bind_some,jMa,zRa]
   rw [show ((i:Int)+1)=((i+1:Nat):Int) by omega,Yna _ (by omega)]
   have hg:=qcb c
   cases hl:QQa c with
   | true=> rw [hl] at hg;simp only [Bool.true_or] at hg;rw [←hg];rfl
   | false=> rw [hl] at hg;simp only [Bool.false_or] at hg;rw [←hg];cases decide (0≤Lib.indexByte [45,95,46,43,61] c) <;> rfl
 unfold q7a vqa
 rw [if_pos hs,cut_at]
 simp only [Option.bind_some]
 unfold J6a
 by_cases h:atP s < s.length
 ·simp only [if_pos h,cond_true]
  rw [hloop _ (by simp;omega),wHa]
  have hall:(s.take (atP s)).any (fun c=> !Qka c)= !((s.take (atP s)).all Qka):=by simp [List.not_all_eq_any_not]
  simp only [hall]
  have hlen:(s.take (atP s)).length=atP s:=by simp;omega
  rw [hlen,Kia _ (by simp;omega)]
  unfold vTa
  by_cases h0:atP s=0
  ·simp [h0]
  ·have hne:(s.take (atP s) !=([]:Str))=true:=by
    simp only [bne_iff_ne,ne_eq]
    intro hx
    have:=congrArg List.length hx
    rw [hlen] at this;simp at this;omega
   rw [hne]
   by_cases h60:atP s≤60
   ·have e:decide ((atP s:Int)≤60)=true:=by simp;omega
    rw [e]
    cases (s.take (atP s)).all Qka <;> simp [h,h60] <;> omega
   ·have e:decide ((atP s:Int)≤60)=false:=by simp;omega
    rw [e];simp [h60]
 ·simp [if_neg h]
theorem Jza (s:Str):(J6a s).2.2=vTa s:=by
 unfold J6a
 by_cases h:atP s < s.length
 ·rw [if_pos h]
 ·rw [if_neg h];unfold vTa;simp [h]
theorem vta (s:Str) (hs:s.length < 4294967281):kFa s=some (vTa s):=by
 unfold kFa;rw [KLa s hs];simp [Jza]
end Go.Proofs.YtjnmamghadpedaaGreatDoor
namespace Go.Proofs.YtjnmamghadpedaaGreatDoor
open Go.RowKit
theorem Zva (o:Option Unit) (a b:Bool):Sum.elim (fun _=> some a) (fun _=> some b) (o.elim (Sum.inl ()) Sum.inr:Unit ⊕ Unit)=some (bif o.isSome then b else a):=by cases o <;> rfl
theorem y5a {α R:Type} (c:α→Bool) (r:R) (l:List α) (n:Nat):(zKa (fun _ x=> if c x then some r else none) n l).isSome=l.any c:=by
 rw [wHa];cases l.any c <;> rfl
theorem QSa {α:Type} (l:List α) (p:α→Bool):l.any (fun x=> !p x)= !l.all p:=by simp [List.not_all_eq_any_not]
theorem ZMa (a b:Int):R_At a b=some ⟨a,b⟩:=rfl
theorem zAa (a b:Int):zpa a b=some ⟨a,b⟩:=rfl
theorem zTa:zUa=some ⟨0,0⟩:=rfl
theorem kda (f:zra):z8a f=some (f.Code !=0):=rfl
theorem j8a (o:Option zra) (f:zra):Sum.elim (fun _=> some f) (fun b=> some b) (o.elim (Sum.inl ()) Sum.inr:Unit ⊕ zra)=some (o.getD f):=by cases o <;> rfl
end Go.Proofs.YtjnmamghadpedaaGreatDoor
namespace Go.Proofs.YtjnmamghadpedaaGreatDoor
open Go.RowKit
set_option maxHeartbeats 1000000
def JAa (c:UInt8):Bool:=QQa c || c==45 || c==95 || c==46
def yba (s:Str):Bool:=decide (1≤s.length) && decide (s.length≤60) && s.all JAa
theorem QTa {s:Str} (h:yba s=true):1≤s.length∧s.length≤60:=by
 unfold yba at h
 simp only [Bool.and_eq_true,decide_eq_true_eq] at h
 exact ⟨h.1.1,h.1.2⟩
theorem QUa (s:Str) (hs:s.length≤1048576):j6a s=some (yba s):=by
 unfold j6a
 rw [zHa s (fun _ c=> if !JAa c then some false else none) (.inl ()) .inr,wHa,QSa]
 ·simp only [Option.bind_some,yta]
  unfold yba
  have e1:decide ((1:Int)≤(s.length:Int))=decide (1≤s.length):=by rw [Bool.eq_iff_iff];simp;omega
  have e2:decide ((s.length:Int)≤60)=decide (s.length≤60):=by rw [Bool.eq_iff_iff];simp;omega
  rw [←e1,←e2]
  cases s.all JAa <;> simp
 ·unfold y2a;rw [kca];rfl
 ·intro i c hc
  have hi:=kia hc
  unfold y2a
  rw [kLa hc,z3a hc]
  simp only [cond_true,Option.bind_some,yma,KKa c 45 (by decide),KKa c 95 (by decide),KKa c 46 (by decide),sc i (by omega)]
  unfold JAa bne
  cases QQa c <;> cases (c==45) <;> cases (c==95) <;> cases (c==46) <;> rfl
theorem y6a (s:Str) (hs:s.length≤1048576):v5a s=some (yba s):=by
 have hloop:iter (vMa s) 0=some ((zKa (fun _ c=> if !JAa c then some () else none) 0 s).elim (.inl ()) .inr):=by
  refine zHa s _ (Sum.inl ()) Sum.inr ?_ ?_
  ·unfold vMa;rw [kca];rfl
  ·intro i c hc
   have hi:=kia hc
   unfold vMa
   rw [kLa hc,z3a hc]
   simp only [cond_true,Option.bind_some,jMa,wWa c 45 (by decide),wWa c 95 (by decide),wWa c 46 (by decide),sc i (by omega)]
   unfold JAa
   cases QQa c <;> cases (c==45) <;> cases (c==95) <;> cases (c==46) <;> rfl
 unfold v5a yba
 rw [hloop]
 simp only [Option.bind_some,Zva,y5a,QSa]
 by_cases hn:s= []
 ·subst hn;rfl
 ·have h1:(s !=([]:Str))=true:=by simpa using hn
  have h2:decide (1≤s.length)=true:=by have:=List.length_pos_iff.2 hn;simp;omega
  have e2:decide ((s.length:Int)≤60)=decide (s.length≤60):=by rw [Bool.eq_iff_iff];simp;omega
  rw [h1,h2,e2]
  cases decide (s.length≤60) <;> cases s.all JAa <;> rfl
def jna (n:Int):Bool:=decide (0≤n) && decide (n≤7)
def recQ (l:List zca) (i:Nat) (r:zca):Option zra:=
 if !vTa r.Address then some ⟨10,i⟩ else if !jna r.Notify then some ⟨3,i⟩ else if (l.take i).any (fun x=> x.Address==r.Address) then some ⟨7,i⟩ else none
def recF (l:List zca):zra:=(zKa (recQ l) 0 l).getD ⟨0,0⟩
def fromB (s:Str):Bool:=s !=([]:Str) && !vTa s
def envF (e:zxa):zra:=if fromB e.From then ⟨10, -10⟩ else if decide (e.To.length < 1) || decide (60 < e.To.length) then ⟨2, -11⟩ else if e.Id !=([]:Str) && !yba e.Id then ⟨10, -12⟩ else recF e.To
def smallR (l:List zca):Prop:=l.length≤1048576∧∀a∈l,a.Address.length≤1048576
def jea (e:zxa):Prop:=e.From.length≤1048576∧e.Id.length≤1048576∧smallR e.To
theorem zYb (l:List zca) (s:Str) (hl:l.length≤1048576):QNa l s=some ((zKa (fun i x=> if x.Address==s then some ((i:Nat):Int) else none) 0 l).getD (-1)):=by
 unfold QNa
 rw [zHa l (fun i x=> if x.Address==s then some ((i:Nat):Int) else none) (.inl ()) .inr]
 ·simp only [Option.bind_some,Qua]
 ·unfold j7a;rw [kca];rfl
 ·intro i x hx
  have hi:=kia hx
  unfold j7a
  rw [kLa hx,z3a hx]
  simp only [cond_true,Option.bind_some,sc i (by omega)]
  cases x.Address==s <;> rfl
theorem yna (n:Int):qda n=some (jna n):=by unfold qda jna;cases decide (0≤n) <;> rfl
theorem J7a (l:List zca) (i:Nat) (s:Str) (hl:l.length≤1048576):decide ((0:Int)≤(zKa (fun i x=> if x.Address==s then some ((i:Nat):Int) else none) 0 (l.take i)).getD (-1))=(l.take i).any (fun x=> x.Address==s):=QOa (fun x=> x.Address==s) (l.take i) 0
theorem Kja (e:zxa) (h:jea e):qMa e=some (envF e):=by
 obtain ⟨h1,h2,h3,h4⟩:=h
 unfold qMa envF
 rw [Zua _ (by omega),QUa _ h2]
 have hloop:iter (k2a e) 0=some ((zKa (recQ e.To) 0 e.To).elim (.inl ()) .inr):=by
  refine zHa e.To _ (Sum.inl ()) Sum.inr ?_ ?_
  ·unfold k2a;rw [kca];rfl
  ·intro i r hr
   have hi:=kia hr
   have ha:=h4 r (List.mem_of_getElem? hr)
   unfold k2a recQ
   rw [kLa hr,z3a hr]
   simp only [cond_true,Option.bind_some,Zua _ (show r.Address.length≤9223372036854775806 by omega),ZMa,yta,K9a (Nat.le_of_lt hi),zYb _ _ (show (e.To.take i).length≤1048576 by simp;omega),J7a _ _ _ h3,sc i (by omega)]
   unfold jna
   cases vTa r.Address <;> cases (decide (0≤r.Notify) && decide (r.Notify≤7)) <;> cases (e.To.take i).any (fun x=> x.Address==r.Address) <;> rfl
 rw [hloop]
 simp only [Option.bind_some,j8a,yta,ZMa]
 have e1:(!(decide ((1:Int)≤(e.To.length:Int)) && decide ((e.To.length:Int)≤60)))=(decide (e.To.length < 1) || decide (60 < e.To.length)):=by generalize e.To.length=n;rw [Bool.eq_iff_iff];simp;omega
 rw [e1]
 unfold fromB recF
 cases e.From !=([]:Str) <;> cases vTa e.From <;> cases (decide (e.To.length < 1) || decide (60 < e.To.length)) <;> cases e.Id !=([]:Str) <;> cases yba e.Id <;> rfl
theorem joa (l:List zca) (h:smallR l):kQa l=some (recF l):=by
 obtain ⟨h3,h4⟩:=h
 unfold kQa recF
 rw [zHa l (recQ l) (.inl ()) .inr]
 ·simp only [Option.bind_some,zTa,j8a]
 ·unfold kSa;rw [kca];rfl
 ·intro i r hr
  have hi:=kia hr
  have ha:=h4 r (List.mem_of_getElem? hr)
  have hl2:iter (kqa r (l.take i)) 0=some ((zKa (fun i x=> if x.Address==r.Address then some ((i:Nat):Int) else none) 0 (l.take i)).elim (.inl ()) .inr):=by
   refine zHa (l.take i) _ (Sum.inl ()) Sum.inr ?_ ?_
   ·unfold kqa;rw [kca];rfl
   ·intro k x hx
    have hk:=kia hx
    simp at hk
    unfold kqa
    rw [kLa hx,z3a hx]
    simp only [cond_true,Option.bind_some,sc k (by omega)]
    cases x.Address==r.Address <;> rfl
  unfold kSa recQ
  rw [kLa hr,z3a hr]
  simp only [cond_true,Option.bind_some,vta _ (show r.Address.length < 4294967281 by omega),zAa,yna,K9a (Nat.le_of_lt hi),hl2,Qua,J7a _ _ _ h3,sc i (by omega)]
  cases vTa r.Address <;> cases jna r.Notify <;> cases (l.take i).any (fun x=> x.Address==r.Address) <;> rfl
theorem Zha (e:zxa) (h:jea e):qea e=some (envF e):=by
 obtain ⟨h1,h2,h3⟩:=h
 unfold qea envF
 rw [vta _ (by omega),y6a _ h2,joa _ h3]
 have e1:decide ((e.To.length:Int) < 1)=decide (e.To.length < 1):=by generalize e.To.length=n;rw [Bool.eq_iff_iff];simp;omega
 have e2:decide ((60:Int) < (e.To.length:Int))=decide (60 < e.To.length):=by rw [Bool.eq_iff_iff];simp;omega
 simp only [Option.bind_some,zAa,e1,e2]
 unfold fromB
 cases e.From !=([]:Str) <;> cases vTa e.From <;> cases decide (e.To.length < 1) <;> cases decide (60 < e.To.length) <;> cases e.Id !=([]:Str) <;> cases yba e.Id <;> rfl
theorem qdb {e:zxa} (h:zxa.bk e≤1048576):jea e:=by
 unfold zxa.bk at h
 dsimp only at h
 refine ⟨by omega,by omega, ?_,fun a ha=> ?_⟩
 ·have:=Jya (bk:=zca.bk) (fun x=> by unfold zca.bk;omega) e.To;omega
 ·have h5:=qab (bk:=zca.bk) ha;have h6:zca.bk a=a.Address.length+1+1+1:=rfl;omega
end Go.Proofs.YtjnmamghadpedaaGreatDoor
namespace Go.Proofs.YtjnmamghadpedaaGreatDoor
open Go.RowKit
set_option maxHeartbeats 1000000
end Go.Proofs.YtjnmamghadpedaaGreatDoor
namespace Go.Proofs.YtjnmamghadpedaaGreatDoor
open Go.RowKit
set_option maxHeartbeats 1000000
end Go.Proofs.YtjnmamghadpedaaGreatDoor
namespace Go.Proofs.YtjnmamghadpedaaGreatDoor
open Go.RowKit
set_option maxHeartbeats 1000000
def add1 (o:List Str) (x:Str):List Str:=if o.contains x then o else o++ [x]
def VZa (o xs:List Str):List Str:=xs.foldl add1 o
theorem add1_mem (o:List Str) (x y:Str):y∈add1 o x↔y∈o∨y=x:=by
 unfold add1
 split
 ·rename_i h
  simp at h
  constructor
  ·exact .inl
  ·rintro (h1 | rfl)
   ·exact h1
   ·exact h
 ·simp
theorem JBa (o:List Str) (x:Str):o <+:add1 o x:=by
 unfold add1;split
 ·exact List.prefix_refl _
 ·exact List.prefix_append _ _
theorem zZb {o:List Str} (h:o.Nodup) (x:Str):(add1 o x).Nodup:=by
 unfold add1;split
 ·exact h
 ·rename_i hx
  simp at hx
  rw [List.nodup_append]
  exact ⟨h,by simp,fun a ha b hb hab=> by simp at hb;subst hb;subst hab;exact hx ha⟩
theorem z0b (xs:List Str):∀(o:List Str) (y:Str),y∈VZa o xs↔y∈o∨y∈xs:=by
 induction xs with
 | nil=> intro o y;simp [VZa]
 | cons x xs ih=> intro o y;show y∈VZa (add1 o x) xs↔_;rw [ih,add1_mem];simp [or_assoc]
theorem WIa (xs:List Str):∀o:List Str,o <+:VZa o xs:=by
 induction xs with
 | nil=> intro o;exact List.prefix_refl _
 | cons x xs ih=> intro o;exact (JBa o x).trans (ih _)
theorem Yra (xs:List Str):∀{o:List Str},o.Nodup→(VZa o xs).Nodup:=by
 induction xs with
 | nil=> intro o h;exact h
 | cons x xs ih=> intro o h;exact ih (zZb h x)
theorem nodup_le {l m:List Str} (hl:l.Nodup) (h:∀x∈l,x∈m):l.length≤m.length:=by
 induction l generalizing m with
 | nil=> simp
 | cons x l ih=>
  have hx:x∈m:=h x (by simp)
  obtain ⟨hxl,hl'⟩:=List.nodup_cons.1 hl
  have:=ih (m:=m.erase x) hl' (fun y hy=> by
   have hne:y≠x:=by rintro rfl;exact hxl hy
   exact (List.mem_erase_of_ne hne).2 (h y (by simp [hy])))
  rw [List.length_erase_of_mem hx] at this
  have:0 < m.length:=List.length_pos_of_mem hx
  simp;omega
def tgtO (l:List yia) (s:Str):Option (List Str):=(l.find? (fun a=> a.Address==s)).map (·.To)
def tgt (l:List yia) (s:Str):List Str:=(tgtO l s).getD []
def univ (l:List yia) (from_:List Str):List Str:=from_++l.flatMap (·.To)
theorem tgt_sub (l:List yia) (s x:Str) (h:x∈tgt l s):∃a∈l,a.Address=s∧x∈a.To:=by
 unfold tgt tgtO at h
 cases hf:l.find? (fun a=> a.Address==s) with
 | none=> rw [hf] at h;simp at h
 | some a=>
  rw [hf] at h
  have:=List.find?_some hf
  exact ⟨a,List.mem_of_find?_eq_some hf,by simpa using this,by simpa using h⟩
structure Inv (l:List yia) (U:List Str) (k:Nat) (out:List Str):Prop where
 nd:out.Nodup
 sub:∀x∈out,x∈U
 le:k≤out.length
theorem Inv.len {l:List yia} {U:List Str} {k:Nat} {out:List Str} (h:Inv l U k out):out.length≤U.length:=nodup_le h.nd h.sub
theorem Inv.step {l:List yia} {from_:List Str} {k:Nat} {out:List Str} (h:Inv l (univ l from_) k out) {s:Str} (hs:out[k]? =some s):Inv l (univ l from_) (k+1) (VZa out (tgt l s)):=by
 refine ⟨Yra _ h.nd,fun x hx=> ?_, ?_⟩
 ·rcases (z0b _ _ _).1 hx with h1 | h1
  ·exact h.sub x h1
  ·obtain ⟨a,ha,_,hxa⟩:=tgt_sub l s x h1
   exact List.mem_append.2 (.inr (List.mem_flatMap.2 ⟨a,ha,hxa⟩))
 ·have:=(WIa (tgt l s) out).length_le
  have:=kia hs
  omega
end Go.Proofs.YtjnmamghadpedaaGreatDoor
namespace Go.Proofs.YtjnmamghadpedaaGreatDoor
open Go.RowKit
set_option maxHeartbeats 1000000
end Go.Proofs.YtjnmamghadpedaaGreatDoor
namespace Go.Proofs.YtjnmamghadpedaaGreatDoor
open Go.RowKit
set_option maxHeartbeats 1000000
end Go.Proofs.YtjnmamghadpedaaGreatDoor
namespace Go.Proofs.YtjnmamghadpedaaGreatDoor
open Go.RowKit
theorem WJa (s:Str) (i:Nat) (h:i < s.length):(strB s)[i]'(by rw [z5a];exact h)=s[i]:=rfl
theorem qeb (s:Str) (i:Nat) (h:i < s.length):(strB s).get! i=s[i]:=by
 have:=get_at (strB s) i (by rw [z5a];exact h)
 rw [Nat.add_zero] at this
 rw [this];rfl
theorem V0a {s:Str} {i:Nat} {c:UInt8} (h:s[i]? =some c) (hc:c.toNat < 128):Zqa s i=(c.toNat:Int)∧yAa s i=1:=by
 have hi:=kia h
 have e:s[i]=c:=by rw [List.getElem?_eq_getElem hi] at h;exact Option.some.inj h
 have hd:=decode_ascii (strB s) i (by rw [z5a];exact hi) (by rw [WJa s i hi,e];exact hc)
 unfold Zqa yAa
 rw [hd,WJa s i hi,e]
 exact ⟨rfl,rfl⟩
theorem qfb {s:Str} {i:Nat} {c:UInt8} (h:s[i]? =some c) (hc:128≤c.toNat):128≤Zqa s i∧Zqa s i≤2147483647∧1≤yAa s i:=by
 have hi:=kia h
 have e:s[i]=c:=by rw [List.getElem?_eq_getElem hi] at h;exact Option.some.inj h
 have hd:=decode_high (strB s) i (by rw [z5a];exact hi) (by rw [WJa s i hi,e];exact hc)
 have hl:=decode_le (strB s) i
 unfold Zqa yAa
 exact ⟨by omega,by omega,hd.2⟩
theorem JCa (s:ByteArray) (pos:Nat):∀k,1≤k→k < (Utf8.decode s pos).2→(s.get! (pos+k)).toNat / 64=2:=by
 intro k h1 h2
 simp only [Utf8.decode] at h2
 repeat' split at h2
 all_goals first
  | (exfalso;simp at h2;omega)
  | (
   rename_i hq _
   simp only [Bool.and_eq_true,decide_eq_true_eq,beq_iff_eq] at hq
   have h2:k < 2:=h2
   obtain rfl:k=1:=by omega
   exact hq.2.2)
  | (
   rename_i hq _
   simp only [Bool.and_eq_true,decide_eq_true_eq,beq_iff_eq] at hq
   have h2:k < 3:=h2
   have:k=1∨k=2:=by omega
   rcases this with rfl | rfl
   ·exact hq.1.2.2
   ·exact hq.2.2)
  | (
   rename_i hq _
   simp only [Bool.and_eq_true,decide_eq_true_eq,beq_iff_eq] at hq
   have h2:k < 4:=h2
   have:k=1∨k=2∨k=3:=by omega
   rcases this with rfl | rfl | rfl
   ·exact hq.1.1.2.2
   ·exact hq.1.2.2
   ·exact hq.2.2)
theorem qgb {s:Str} {i j:Nat} {c d:UInt8} (h:s[i]? =some c) (hc:128≤c.toNat) (h1:i≤j) (h2:j < i+yAa s i) (hj:s[j]? =some d):128≤d.toNat:=by
 by_cases e:j=i
 ·subst e;rw [h] at hj;cases hj;exact hc
 ·have hjl:=kia hj
  have e2:s[j]=d:=by rw [List.getElem?_eq_getElem hjl] at hj;exact Option.some.inj hj
  have:=JCa (strB s) i (j - i) (by omega) (by unfold yAa at h2;omega)
  rw [show i+(j - i)=j by omega,qeb s j hjl,e2] at this
  omega
theorem toU8_nat (c:UInt8):toU8 (c.toNat:Int)=c:=by
 unfold toU8
 have:=c.toNat_lt
 rw [show ((c.toNat:Int) % 256).toNat=c.toNat by omega]
 simp
theorem V1a {t:Str} (h:VVa t=true) {c:UInt8} (hc:c∈t):c.toNat < 128:=by
 unfold VVa at h
 rw [List.all_eq_true] at h
 simpa using h c hc
theorem z1b {r:Int} (h:128≤r):∃m x,1≤m∧m≤3∧(wha r).length=m+1∧(wha r)[m]? =some x∧128≤x.toNat:=by
 unfold wha
 simp only [Utf8.encode]
 have hc:128≤(if Utf8.valid r=true then r.toNat else Utf8.runeError):=by
  split
  ·omega
  ·decide
 generalize (if Utf8.valid r=true then r.toNat else Utf8.runeError)=c at hc
 have hb:∀n:Nat,128≤(UInt8.ofNat (128+n % 64)).toNat:=by
  intro n
  rw [UInt8.toNat_ofNat']
  have:(128+n % 64) % 2 ^ 8=128+n % 64:=Nat.mod_eq_of_lt (by omega)
  rw [this];omega
 rw [if_neg (by omega)]
 split
 ·exact ⟨1,_,by omega,by omega,rfl,rfl,hb c⟩
 ·split
  ·exact ⟨2,_,by omega,by omega,rfl,rfl,hb c⟩
  ·exact ⟨3,_,by omega,by omega,rfl,rfl,hb c⟩
theorem Vra {t:Str} (h:∀c∈t,c.toNat < 128) {x:UInt8} (hx:128≤x.toNat):Lib.indexByte t x= -1:=by
 have hc:=Lib.contains_iff_indexByte t x
 have hn:t.contains x=false:=by
  rw [Bool.eq_false_iff]
  intro hm
  have:=h x (by simpa using hm)
  omega
 rw [hn] at hc
 have hge:=Lib.indexByte_ge t x
 have:=of_decide_eq_false hc.symm
 omega
theorem QVa (t:Str) (c:UInt8) (hc:c.toNat < 128):kha t (c.toNat:Int)=some (Lib.indexByte t c):=by
 unfold kha
 have h1:decide ((0:Int)≤(c.toNat:Int))=true:=by simp
 have h2:decide ((c.toNat:Int) < 128)=true:=by simp;omega
 rw [h1,h2]
 simp only [cond_true,Option.bind_some,toU8_nat]
 rfl
theorem Vsa (t:Str) (r:Int) (hr:128≤r) (ht:∀c∈t,c.toNat < 128) (hl:t.length≤4294967281):kha t r=some (-1):=by
 unfold kha
 have h1:decide ((0:Int)≤r)=true:=by simp;omega
 have h2:decide (r < 128)=false:=by simp;omega
 rw [h1,h2]
 simp only [cond_true,cond_false,Option.bind_some]
 cases hq:r==65533 with
 | true=>
  simp only [cond_true]
  obtain ⟨o,ho,rfl⟩:=WDa (body:=k6a t) (fun i=> i≤t.length) (fun i=> t.length - i) (fun _ o=> o= .inl ()) (fun i hi=> by
   unfold k6a
   by_cases hlt:i < t.length
   ·right
    have hg:t[i]? =some t[i]:=List.getElem?_eq_getElem hlt
    have hc:=ht t[i] (List.getElem_mem hlt)
    obtain ⟨e1,e2⟩:=V0a hg hc
    rw [e1,e2,decide_eq_true hlt]
    have hne:((t[i].toNat:Int)==65533)=false:=by rw [beq_eq_false_iff_ne];omega
    rw [hne]
    exact ⟨i+1,rfl,by omega,by omega,fun _ h=> h⟩
   ·left
    rw [decide_eq_false hlt]
    exact ⟨.inl (),rfl,rfl⟩) 0 (Nat.zero_le _)
  rw [ho];rfl
 | false=>
  simp only [cond_false]
  have hv:∃b,kpa r=some b:=by
   unfold kpa
   cases decide (0≤r) <;> cases decide (r < 55296) <;> cases decide (57343 < r) <;> cases decide (r≤1114111) <;> exact ⟨_,rfl⟩
  obtain ⟨b,hb⟩:=hv
  rw [hb]
  simp only [Option.bind_some]
  cases b with
  | false=> rfl
  | true=>
   simp only [Bool.not_true,cond_false]
   obtain ⟨m,x,hm1,hm3,hlen,hx,hx128⟩:=z1b hr
   have hst:w64 (((wha r).length:Int) - 1)=(m:Int):=by rw [hlen,kUa (by omega) (by omega)];omega
   rw [hst]
   have hbody:∃o,k8a t r (m:Int)=some (.out o)∧(o= .inl ()∨o= .inr (-1)):=by
    unfold k8a
    by_cases hlt:m < t.length
    ·have hd:decide ((m:Int) < (t.length:Int))=true:=by simp;omega
     have hc:=ht t[m] (List.getElem_mem hlt)
     rw [hd,hst,VYa hlt,z3a hx]
     have hne:((t[m].toNat:Int) !=(x.toNat:Int))=true:=by simp;omega
     simp only [cond_true,Option.bind_some,hne]
     rw [show (m:Int)+1=((m+1:Nat):Int) by omega,Yna _ (by omega),jca (by omega)]
     simp only [Option.bind_some]
     have hib:zRa (t.drop (m+1)) x=some (-1):=by
      show some (Lib.indexByte (t.drop (m+1)) x)=_
      rw [Vra (fun c hc=> ht c (List.mem_of_mem_drop hc)) hx128]
     rw [hib]
     exact ⟨.inr (-1),rfl, .inr rfl⟩
    ·have hd:decide ((m:Int) < (t.length:Int))=false:=by simp;omega
     rw [hd]
     exact ⟨.inl (),rfl, .inl rfl⟩
   obtain ⟨o,ho,ho2⟩:=hbody
   rw [zIa ho]
   rcases ho2 with rfl | rfl <;> rfl
theorem Ysa (s t:Str) (h8:s.length≤8) (h2:2≤t.length) (hl:t.length < 4294967281) (ht:VVa t=true):qXa s t=some (Lib.indexAny s t):=by
 have htc:∀c∈t,c.toNat < 128:=fun c hc=> V1a ht hc
 unfold qXa
 have e1:(t==([]:Str))=false:=by rw [beq_eq_false_iff_ne];rintro rfl;simp at h2
 have e2:((t.length:Int)==1)=false:=by rw [beq_eq_false_iff_ne];omega
 have e3:zJa (s.length:Int)=some false:=by unfold zJa;simp;omega
 rw [e1,e2,e3]
 simp only [cond_false,Option.bind_some]
 obtain ⟨o,ho,ho2⟩:=WDa (body:=k9a s t) (fun i=> Lib.NoAny s t i) (fun i=> s.length - i) (fun _ o=> Sum.elim (fun _=> some (-1)) (fun b=> some b) o=some (Lib.indexAny s t)) (fun i hi=> by
  unfold k9a
  by_cases hlt:i < s.length
  ·have hg:s[i]? =some s[i]:=List.getElem?_eq_getElem hlt
   rw [decide_eq_true hlt]
   simp only [cond_true]
   by_cases hc:s[i].toNat < 128
   ·obtain ⟨q1,q2⟩:=V0a hg hc
    rw [q1,q2,QVa t _ hc]
    simp only [Option.bind_some]
    have hcon:=Lib.contains_iff_indexByte t s[i]
    rw [←hcon]
    cases hin:t.contains s[i] with
    | true=>
     left
     exact ⟨.inr (i:Int),rfl,by rw [Lib.indexAny_hit hi hg hin];rfl⟩
    | false=>
     right
     exact ⟨i+1,rfl,hi.succ hg hin,by omega,fun _ h=> h⟩
   ·have hc:128≤s[i].toNat:=by omega
    obtain ⟨q1,q2,q3⟩:=qfb hg hc
    rw [Vsa t _ q1 htc (by omega)]
    right
    refine ⟨i+yAa s i,rfl,fun j b hj hb=> ?_,by omega,fun _ h=> h⟩
    by_cases hji:j < i
    ·exact hi j b hji hb
    ·have:=qgb hg hc (by omega) hj hb
     rw [Bool.eq_false_iff]
     intro hm
     have:=htc b (by simpa using hm)
     omega
  ·left
   rw [decide_eq_false hlt]
   refine ⟨.inl (),rfl, ?_⟩
   have hn:Lib.NoAny s t s.length:=fun j b hj hb=> hi j b (by omega) hb
   rw [Lib.indexAny_none hn];rfl) 0 (Lib.NoAny.zero s t)
 rw [ho];exact ho2
end Go.Proofs.YtjnmamghadpedaaGreatDoor
namespace Go.Proofs.YtjnmamghadpedaaGreatDoor
open Go.RowKit
theorem Yta (t:Str):∀s:Str,decide (0≤Lib.indexAny s t)=s.any fun c=> t.contains c:=by
 intro s
 induction s with
 | nil=> rfl
 | cons c s ih=>
  have hge:=Lib.indexAny_ge t s
  rw [List.any_cons,←ih,Lib.indexAny]
  cases t.contains c with
  | true=> simp
  | false=>
   simp only [Bool.false_eq_true,if_false,Bool.false_or]
   by_cases h:Lib.indexAny s t= -1
   ·simp [h]
   ·have:(Lib.indexAny s t== -1)=false:=by simpa using h
    rw [this]
    simp only [Bool.false_eq_true,if_false]
    rw [Bool.eq_iff_iff];simp;omega
theorem vYa (s t:Str) (hs:s.length≤1048576) (h2:2≤t.length) (hl:t.length≤1048576) (ht:VVa t=true):zDa s t=some (s.any fun c=> t.contains c):=by
 unfold zDa kWa
 rw [if_pos ⟨by omega,by omega,h2,ht⟩]
 simp only [Option.bind_some,Yta]
end Go.Proofs.YtjnmamghadpedaaGreatDoor
namespace Go.Proofs.YtjnmamghadpedaaGreatDoor
open Go.RowKit
set_option maxHeartbeats 1000000
def wxa (c:UInt8):Bool:=c==32 || c==9
theorem V2a (c:UInt8):vOa c=some (wxa c):=by
 unfold vOa wxa
 rw [wWa c 32 (by decide),wWa c 9 (by decide)]
 cases c==32 <;> rfl
theorem Zwa (c:UInt8):qNa c=some (wxa c):=by
 unfold qNa wxa
 rw [wWa c 32 (by decide),wWa c 9 (by decide)]
 cases c==32 <;> rfl
def fnC (c:UInt8):Bool:=decide (33≤c) && decide (c≤126) && c !=58
def fnP (s:Str):Bool:=s !=([]:Str) && decide (s.length≤60) && s.all fnC
theorem dec60 (s:Str):decide ((s.length:Int)≤60)=decide (s.length≤60):=by generalize s.length=n;rw [Bool.eq_iff_iff];simp;omega
theorem Yua (s:Str) (hs:s.length≤1048576):jJa s=some (fnP s):=by
 have hloop:iter (wia s) 0=some ((zKa (fun _ c=> if !fnC c then some () else none) 0 s).elim (.inl ()) .inr):=by
  refine zHa s _ (Sum.inl ()) Sum.inr ?_ ?_
  ·unfold wia;rw [kca];rfl
  ·intro i c hc
   have hi:=kia hc
   unfold wia
   rw [kLa hc,z3a hc]
   simp only [cond_true,Option.bind_some,KKa c 58 (by decide),yKa 33 c (by decide),yLa 126 c (by decide),sc i (by omega)]
   unfold fnC
   cases decide ((33:UInt8)≤c) <;> cases decide (c≤126) <;> cases c !=58 <;> rfl
 unfold jJa fnP
 rw [hloop]
 simp only [Option.bind_some,Zva,y5a,QSa,dec60]
 cases s !=([]:Str) <;> cases decide (s.length≤60) <;> cases s.all fnC <;> rfl
def endC (c:UInt8):Bool:=c==13 || c==10 || c==0
theorem Yva (s:Str) (hs:s.length≤1048576):jKa s=some (s.any endC):=by
 unfold jKa
 rw [vYa s _ hs (by decide) (by decide) (by decide)]
 simp only [Option.bind_some,Option.some.injEq]
 congr 1
 funext c
 rw [Bool.eq_iff_iff]
 simp [endC,or_assoc]
def qhb (s:Str):Bool:=match s.head?,s.getLast? with | some a,some b=> wxa a || wxa b | _,_=> false
def valP (s:Str):Bool:= !(s.any endC) && !(qhb s)
theorem J8a (s:Str) (h:s≠ []) (hs:s.length≤1048576):∃a b,idx s 0=some a∧idx s (w64 ((s.length:Int) - 1))=some b∧s.head? =some a∧s.getLast? =some b:=by
 have hpos:=List.length_pos_iff.2 h
 obtain ⟨a,r,rfl⟩:=List.exists_cons_of_ne_nil h
 have e:w64 (((a::r).length:Int) - 1)=((r.length:Nat):Int):=by
  have hl:(a::r).length=r.length+1:=rfl
  rw [kUa (by omega) (by omega)];omega
 refine ⟨a,(a::r).getLast h,rfl, ?_,rfl,List.getLast?_eq_some_getLast h⟩
 rw [e,jLa,List.getLast_eq_getElem h,List.getElem?_eq_getElem (by simp)]
 congr 2
theorem WKa (s:Str) (hs:s.length≤1048576):yDa s=some (valP s):=by
 unfold yDa valP
 rw [Yva s hs]
 simp only [Option.bind_some]
 by_cases hn:s= []
 ·subst hn;rfl
 ·obtain ⟨a,b,h1,h2,h3,h4⟩:=J8a s hn hs
  have e:(s==([]:Str))=false:=by simpa using hn
  unfold qhb
  rw [h1,h2,h3,h4,e]
  simp only [Option.bind_some,Zwa,cond_false]
  cases s.any endC <;> cases wxa a <;> cases wxa b <;> rfl
def br (t:Str) (f i:Nat):Bool:=decide (1≤i) && decide (f≤i) && (match t[i]?,t[i - 1]? with | some a,some b=> wxa a && !wxa b | _,_=> false)
def KMa (t:Str) (f:Nat):Nat→Nat
 | 0=> 0
 | i+1=> if br t f (i+1) then i+1 else KMa t f i
def WLa (t:Str) (f:Nat):Nat→Nat→Nat
 | 0,_=> 0
 | n+1,i=> if br t f i then i else WLa t f n (i+1)
def cutP (t:Str) (f:Nat):Nat:=if KMa t f 78=0 then WLa t f (t.length - 79) 79 else KMa t f 78
def JDa (t:Str) (f c:Nat):Prop:=(c=0∧∀j,br t f j=false)∨(br t f c=true∧((c≤78∧∀j,c < j→j≤78→br t f j=false)∨(78 < c∧∀j,j < c→br t f j=false)))
theorem qib (t:Str) (f:Nat):br t f 0=false:=rfl
theorem JEa {t:Str} {f i:Nat} (h:br t f i=true):i < t.length∧1≤i∧f≤i:=by
 unfold br at h
 simp only [Bool.and_eq_true,decide_eq_true_eq] at h
 obtain ⟨⟨h1,h2⟩,h3⟩:=h
 refine ⟨?_,h1,h2⟩
 cases hi:t[i]? with
 | none=> rw [hi] at h3;simp at h3
 | some a=> exact kia hi
theorem Ywa {t:Str} {f c d:Nat} (h:JDa t f c) (k:JDa t f d):c=d:=by
 rcases h with ⟨rfl,h⟩ | ⟨hc,h⟩ <;> rcases k with ⟨rfl,k⟩ | ⟨hd,k⟩
 ·rfl
 ·rw [h] at hd;cases hd
 ·rw [k] at hc;cases hc
 ·rcases Nat.lt_trichotomy c d with hlt | heq | hgt
  ·exfalso
   rcases h with ⟨h1,h2⟩ | ⟨h1,h2⟩ <;> rcases k with ⟨k1,k2⟩ | ⟨k1,k2⟩
   ·rw [h2 d hlt k1] at hd;cases hd
   ·rw [k2 c hlt] at hc;cases hc
   ·omega
   ·rw [k2 c hlt] at hc;cases hc
  ·exact heq
  ·exfalso
   rcases h with ⟨h1,h2⟩ | ⟨h1,h2⟩ <;> rcases k with ⟨k1,k2⟩ | ⟨k1,k2⟩
   ·rw [k2 c hgt h1] at hc;cases hc
   ·omega
   ·rw [h2 d hgt] at hd;cases hd
   ·rw [h2 d hgt] at hd;cases hd
theorem z2b (t:Str) (f:Nat):∀n,(KMa t f n=0∧∀j,j≤n→br t f j=false)∨(br t f (KMa t f n)=true∧KMa t f n≤n∧∀j,KMa t f n < j→j≤n→br t f j=false):=by
 intro n
 induction n with
 | zero=> left;exact ⟨rfl,fun j hj=> by
     obtain rfl:j=0:=by omega
     exact qib t f⟩
 | succ n ih=>
  unfold KMa
  by_cases h:br t f (n+1)=true
  ·rw [if_pos h];right;exact ⟨h,Nat.le_refl _,fun j h1 h2=> by omega⟩
  ·rw [if_neg h]
   rcases ih with ⟨h1,h2⟩ | ⟨h1,h2,h3⟩
   ·left
    refine ⟨h1,fun j hj=> ?_⟩
    by_cases e:j=n+1
    ·subst e;simpa using h
    ·exact h2 j (by omega)
   ·right
    refine ⟨h1,by omega,fun j hj hjn=> ?_⟩
    by_cases e:j=n+1
    ·subst e;simpa using h
    ·exact h3 j hj (by omega)
theorem z3b (t:Str) (f:Nat):∀n i,(WLa t f n i=0∧∀j,i≤j→j < i+n→br t f j=false)∨(br t f (WLa t f n i)=true∧i≤WLa t f n i∧∀j,i≤j→j < WLa t f n i→br t f j=false):=by
 intro n
 induction n with
 | zero=> intro i;left;exact ⟨rfl,fun j h1 h2=> by omega⟩
 | succ n ih=>
  intro i
  unfold WLa
  by_cases h:br t f i=true
  ·rw [if_pos h];right;exact ⟨h,Nat.le_refl _,fun j h1 h2=> by omega⟩
  ·rw [if_neg h]
   have hb:br t f i=false:=by simpa using h
   rcases ih (i+1) with ⟨h1,h2⟩ | ⟨h1,h2,h3⟩
   ·left
    refine ⟨h1,fun j hj hjn=> ?_⟩
    by_cases e:j=i
    ·subst e;exact hb
    ·exact h2 j (by omega) (by omega)
   ·right
    refine ⟨h1,by omega,fun j hj hjn=> ?_⟩
    by_cases e:j=i
    ·subst e;exact hb
    ·exact h3 j (by omega) hjn
theorem qjb (t:Str) (f:Nat):JDa t f (cutP t f):=by
 unfold cutP
 rcases z2b t f 78 with ⟨h1,h2⟩ | ⟨h1,h2,h3⟩
 ·rw [if_pos h1]
  rcases z3b t f (t.length - 79) 79 with ⟨k1,k2⟩ | ⟨k1,k2,k3⟩
  ·left
   refine ⟨k1,fun j=> ?_⟩
   by_cases hj:j≤78
   ·exact h2 j hj
   ·cases hb:br t f j with
    | false=> rfl
    | true=> have:=(JEa hb).1;rw [k2 j (by omega) (by omega)] at hb;cases hb
  ·right
   refine ⟨k1, .inr ⟨by omega,fun j hj=> ?_⟩⟩
   by_cases hj2:j≤78
   ·exact h2 j hj2
   ·exact k3 j (by omega) hj
 ·have hne:KMa t f 78≠0:=by intro h;rw [h,qib] at h1;cases h1
  rw [if_neg hne]
  exact .inr ⟨h1, .inl ⟨h2,h3⟩⟩
theorem j9a {t:Str} {f:Nat} (h:cutP t f≠0):1≤cutP t f∧cutP t f < t.length:=by
 rcases qjb t f with ⟨h1,_⟩ | ⟨h1,_⟩
 ·exact absurd h1 h
 ·exact ⟨(JEa h1).2.1,(JEa h1).1⟩
theorem br_at {t:Str} {f i:Nat} (h1:1≤i) (hi:i < t.length):br t f i=(decide (f≤i) && (wxa t[i] && !wxa (t[i - 1]'(by omega)))):=by
 unfold br
 rw [List.getElem?_eq_getElem hi,List.getElem?_eq_getElem (show i - 1 < t.length by omega)]
 simp [h1]
def PInv (t:Str) (f b i:Nat):Prop:=f≤i∧1≤i∧((b=0∧∀j,j < i→br t f j=false)∨(br t f b=true∧b < i∧((b≤78∧∀j,b < j→j < i→br t f j=false)∨(78 < b∧∀j,j < b→br t f j=false))))
theorem PInv.done {t:Str} {f b i:Nat} (h:PInv t f b i) (hi:0 < b∧78 < i∨t.length≤i):JDa t f b:=by
 obtain ⟨hf,h1,h2⟩:=h
 rcases h2 with ⟨rfl,h3⟩ | ⟨h3,h4,h5⟩
 ·left
  refine ⟨rfl,fun j=> ?_⟩
  cases hb:br t f j with
  | false=> rfl
  | true=>
   have:=(JEa hb).1
   rw [h3 j (by omega)] at hb;cases hb
 ·right
  refine ⟨h3, ?_⟩
  rcases h5 with ⟨h6,h7⟩ | h6
  ·left
   refine ⟨h6,fun j hj hj2=> ?_⟩
   cases hb:br t f j with
   | false=> rfl
   | true=>
    have:=(JEa hb).1
    rw [h7 j hj (by omega)] at hb;cases hb
  ·exact .inr h6
theorem WMa (t:Str) (f:Nat) (ht:t.length≤4194304) (hf:f≤4194304):yEa t (f:Int)=some ((cutP t (max f 1):Nat):Int):=by
 unfold yEa
 have hstart:max (f:Int) 1=((max f 1:Nat):Int):=by omega
 rw [hstart]
 obtain ⟨r,h1,b,rfl,h2⟩:=WDa (body:=wBa t) (fun s=> ∃b i:Nat,s=((b:Int),(i:Int))∧PInv t (max f 1) b i∧i≤4194305) (fun s=> (4194306 - s.2).toNat) (fun _ r=> ∃c:Nat,r=(c:Int)∧JDa t (max f 1) c) (by
  rintro _ ⟨b,i,rfl,hI,hil⟩
  have hi1:=hI.2.1
  unfold wBa
  dsimp only
  by_cases hlt:i < t.length
  ·have hd:decide ((i:Int) < (t.length:Int))=true:=by simp;omega
   have hpre:w64 ((i:Int) - 1)=((i - 1:Nat):Int):=by rw [kUa (by omega) (by omega)];omega
   rw [hd,VYa hlt,hpre,VYa (show i - 1 < t.length by omega)]
   have hb:=br_at (f:=max f 1) hi1 hlt
   have hfi:decide (max f 1≤i)=true:=by simp only [decide_eq_true_eq];exact hI.1
   rw [hfi,Bool.true_and] at hb
   simp only [cond_true,Option.bind_some,Zwa]
   have next:∀b' :Nat,PInv t (max f 1) b' (i+1)→qqa ((b:Int),(i:Int)) (b' :Int)=some (.cont ((b' :Int),((i+1:Nat):Int))):=by
    intro b' _
    unfold qqa
    dsimp only
    rw [sc i (by omega)]
   have hno:br t (max f 1) i=false→PInv t (max f 1) b (i+1):=by
    intro hnb
    refine ⟨by have:=hI.1;omega,by omega, ?_⟩
    rcases hI.2.2 with ⟨q1,q2⟩ | ⟨q1,q2,q3⟩
    ·left
     refine ⟨q1,fun j hj=> ?_⟩
     by_cases e:j=i
     ·subst e;exact hnb
     ·exact q2 j (by omega)
    ·right
     refine ⟨q1,by omega, ?_⟩
     rcases q3 with ⟨q4,q5⟩ | q4
     ·left
      refine ⟨q4,fun j hj hj2=> ?_⟩
      by_cases e:j=i
      ·subst e;exact hnb
      ·exact q5 j hj (by omega)
     ·exact .inr q4
   have goNo:br t (max f 1) i=false→(∃s',qqa ((b:Int),(i:Int)) (b:Int)=some (.cont s')∧(∃b i:Nat,s' =((b:Int),(i:Int))∧PInv t (max f 1) b i∧i≤4194305)∧(4194306 - s'.2).toNat < (4194306 - ((i:Int))).toNat∧∀r:Int,(∃c:Nat,r=(c:Int)∧JDa t (max f 1) c)→∃c:Nat,r=(c:Int)∧JDa t (max f 1) c):=by
    intro hnb
    exact ⟨_,next b (hno hnb),⟨b,i+1,rfl,hno hnb,by omega⟩,by dsimp only;omega,fun _ h=> h⟩
   cases ha:wxa t[i] with
   | false=>
    rw [ha] at hb
    simp only [Bool.not_false,cond_true,Option.bind_some]
    exact .inr (goNo hb)
   | true=>
    rw [ha] at hb
    simp only [Bool.not_true,cond_false,Option.bind_some]
    cases hp:wxa t[i - 1] with
    | true=>
     rw [hp] at hb
     simp only [cond_true]
     exact .inr (goNo hb)
    | false=>
     rw [hp] at hb
     have hb:br t (max f 1) i=true:=hb
     simp only [cond_false]
     by_cases hb0:0 < b∧78 < i
     ·left
      have e1:decide ((0:Int) < (b:Int))=true:=by simp;omega
      have e2:decide ((78:Int) < (i:Int))=true:=by simp;omega
      rw [e1,e2]
      exact ⟨(b:Int),rfl,b,rfl,hI.done (.inl hb0)⟩
     ·right
      have e:(bif decide ((0:Int) < (b:Int)) then some (decide ((78:Int) < (i:Int))) else some false)=some false:=by
       by_cases h0:0 < b
       ·have e1:decide ((0:Int) < (b:Int))=true:=by simp;omega
        have e2:decide ((78:Int) < (i:Int))=false:=by simp;omega
        rw [e1,e2];rfl
       ·have e1:decide ((0:Int) < (b:Int))=false:=by simp;omega
        rw [e1];rfl
      rw [e]
      simp only [Option.bind_some,cond_false]
      have hnew:PInv t (max f 1) i (i+1):=by
       refine ⟨by have:=hI.1;omega,by omega, .inr ⟨hb,by omega, ?_⟩⟩
       by_cases h78:i≤78
       ·exact .inl ⟨h78,fun j h1 h2=> by omega⟩
       ·right
        refine ⟨by omega, ?_⟩
        rcases hI.2.2 with ⟨q1,q2⟩ | ⟨q1,q2,q3⟩
        ·exact q2
        ·exfalso
         have:=(JEa q1).2.1
         omega
      exact ⟨_,next i hnew,⟨i,i+1,rfl,hnew,by omega⟩,by dsimp only;omega,fun _ h=> h⟩
  ·left
   have hd:decide ((i:Int) < (t.length:Int))=false:=by simp;omega
   rw [hd]
   exact ⟨(b:Int),rfl,b,rfl,hI.done (.inr (by omega))⟩) ((0:Int),((max f 1:Nat):Int)) ⟨0,max f 1,rfl,⟨Nat.le_refl _,by omega, .inl ⟨rfl,fun j hj=> by
   cases hb:br t (max f 1) j with
   | false=> rfl
   | true=> have:=(JEa hb).2.2;omega⟩⟩,by omega⟩
 rw [h1]
 simp only [Option.bind_some]
 rw [Ywa h2 (qjb t (max f 1))]
theorem R_cut_eq (t:Str) (f:Nat) (out:List Str) (ht:t.length≤4194304) (h78:78 < t.length) (hf:f≤4194304) (h1f:1≤f):((iter (kBa (t,(f:Int),out)) (0,78)).bind fun b10=> iter (kka (t,(f:Int),out)) (b10,79))=some ((cutP t f:Nat):Int):=by
 have test:∀i:Nat,1≤i→i < t.length→((bif decide ((f:Int)≤(i:Int)) then (idx t (i:Int)).bind fun v18=> (vOa v18).bind fun v20=> (bif v20 then (idx t ((w64 ((i:Int) - 1)))).bind fun v23=> (vOa v23).bind fun v25=> some ((!v25)) else some false) else some false):Option Bool)=some (br t f i):=by
  intro i h1 h2
  have hpre:w64 ((i:Int) - 1)=((i - 1:Nat):Int):=by rw [kUa (by omega) (by omega)];omega
  rw [br_at h1 h2,VYa h2,hpre,VYa (show i - 1 < t.length by omega)]
  have e:decide ((f:Int)≤(i:Int))=decide (f≤i):=by rw [Bool.eq_iff_iff];simp
  rw [e]
  simp only [Option.bind_some,V2a]
  cases decide (f≤i) <;> cases wxa t[i] <;> rfl
 have hdn:∀i:Nat,i≤78→iter (kBa (t,(f:Int),out)) (0,(i:Int))=some ((KMa t f i:Nat):Int):=by
  intro i
  induction i with
  | zero=> intro _;exact zIa (by unfold kBa;rfl)
  | succ i ih=>
   intro hi
   have hb:kBa (t,(f:Int),out) (0,((i+1:Nat):Int))=some (.cont ((bif br t f (i+1) then ((i+1:Nat):Int) else 0),(i:Int))):=by
    unfold kBa
    dsimp only
    have e1:decide ((0:Int) < ((i+1:Nat):Int))=true:=by rw [decide_eq_true_eq];omega
    have e2:w64 (((i+1:Nat):Int) - 1)=(i:Int):=by rw [kUa (by omega) (by omega)];omega
    rw [test (i+1) (by omega) (by omega),e1,e2]
    simp only [beq_self_eq_true,cond_true,Option.bind_some]
    cases br t f (i+1) <;> rfl
   rw [zXa hb]
   unfold KMa
   cases hq:br t f (i+1) with
   | false=> simpa using ih (by omega)
   | true=>
    simp only [cond_true,if_true]
    refine zIa ?_
    unfold kBa
    dsimp only
    have e3:((((i+1:Nat):Int))==0)=false:=by rw [beq_eq_false_iff_ne];omega
    rw [e3]
    cases decide ((0:Int) < (i:Int)) <;> rfl
 have h1:=hdn 78 (by omega)
 have e78:((78:Nat):Int)=78:=rfl
 rw [e78] at h1
 rw [h1]
 simp only [Option.bind_some]
 have hout:∀(c i:Nat),c≠0→iter (kka (t,(f:Int),out)) ((c:Int),(i:Int))=some ((c:Nat):Int):=by
  intro c i hc
  refine zIa ?_
  unfold kka
  dsimp only
  have e3:((c:Int)==0)=false:=by rw [beq_eq_false_iff_ne];omega
  rw [e3]
  cases decide ((i:Int) < (t.length:Int)) <;> rfl
 have hup:∀n i:Nat,i+n=t.length→1≤i→iter (kka (t,(f:Int),out)) (0,(i:Int))=some ((WLa t f n i:Nat):Int):=by
  intro n
  induction n with
  | zero=>
   intro i hi _
   refine zIa ?_
   unfold kka
   dsimp only
   have:decide ((i:Int) < (t.length:Int))=false:=by rw [decide_eq_false_iff_not];omega
   rw [this];rfl
  | succ n ih=>
   intro i hi h1i
   have hb:kka (t,(f:Int),out) (0,(i:Int))=some (.cont ((bif br t f i then (i:Int) else 0),((i+1:Nat):Int))):=by
    unfold kka
    dsimp only
    have e1:decide ((i:Int) < (t.length:Int))=true:=by simp;omega
    rw [test i h1i (by omega),e1,sc i (by omega)]
    simp only [beq_self_eq_true,cond_true,Option.bind_some]
    cases br t f i <;> rfl
   rw [zXa hb]
   unfold WLa
   cases hq:br t f i with
   | false=> simpa using ih (i+1) (by omega) (by omega)
   | true=>
    simp only [cond_true,if_true]
    exact hout i (i+1) (by omega)
 unfold cutP
 have e79:((79:Nat):Int)=79:=rfl
 by_cases h0:KMa t f 78=0
 ·rw [if_pos h0,h0]
  have:=hup (t.length - 79) 79 (by omega) (by omega)
  rw [e79] at this
  exact this
 ·rw [if_neg h0]
  have:=hout (KMa t f 78) 79 h0
  rw [e79] at this
  exact this
end Go.Proofs.YtjnmamghadpedaaGreatDoor
namespace Go.Proofs.YtjnmamghadpedaaGreatDoor
open Go.RowKit
set_option maxHeartbeats 1000000
def Kka:Nat→Str→Nat→List Str
 | 0,t,_=> [t]
 | n+1,t,f=> if 78 < t.length then (if cutP t f=0 then [t] else t.take (cutP t f)::Kka n (t.drop (cutP t f)) 1) else [t]
theorem WNa:∀(n m:Nat) (t:Str) (f:Nat),t.length≤n→t.length≤m→Kka n t f=Kka m t f:=by
 intro n
 induction n with
 | zero=>
  intro m t f h1 h2
  cases m with
  | zero=> rfl
  | succ m=> unfold Kka;rw [if_neg (by omega)]
 | succ n ih=>
  intro m t f h1 h2
  cases m with
  | zero=> unfold Kka;rw [if_neg (by omega)]
  | succ m=>
   unfold Kka
   split
   ·split
    ·rfl
    ·rename_i hc
     have:=j9a hc
     rw [ih m _ 1 (by simp;omega) (by simp;omega)]
   ·rfl
def wXa (t:Str) (f:Nat):List Str:=Kka t.length t f
theorem Qaa {t:Str} {f:Nat} (h:78 < t.length) (hc:cutP t f≠0):wXa t f=t.take (cutP t f)::wXa (t.drop (cutP t f)) 1:=by
 unfold wXa
 obtain ⟨n,hn⟩:∃n,t.length=n+1:=⟨t.length - 1,by omega⟩
 have hp:=j9a hc
 rw [hn,Kka,if_pos h,if_neg hc]
 rw [WNa n (t.drop (cutP t f)).length _ 1 (by simp;omega) (Nat.le_refl _)]
theorem v9a {t:Str} {f:Nat} (h:¬78 < t.length∨cutP t f=0):wXa t f= [t]:=by
 unfold wXa
 cases hn:t.length with
 | zero=> rfl
 | succ n=>
  rw [Kka]
  rcases h with h | h
  ·rw [if_neg h]
  ·split
   ·rfl
   ·rfl
theorem Qba:∀(n:Nat) (t:Str) (f:Nat),t.length≤n→(wXa t f).flatten=t∧(wXa t f).length≤t.length+1:=by
 intro n
 induction n with
 | zero=> intro t f h;rw [v9a (.inl (by omega))];simp
 | succ n ih=>
  intro t f h
  by_cases h78:78 < t.length
  ·by_cases hc:cutP t f=0
   ·rw [v9a (.inr hc)];simp
   ·have hp:=j9a hc
    rw [Qaa h78 hc]
    obtain ⟨h1,h2⟩:=ih (t.drop (cutP t f)) 1 (by simp;omega)
    rw [List.flatten_cons,h1]
    refine ⟨by simp, ?_⟩
    simp only [List.length_cons,List.length_drop] at h2 ⊢
    omega
  ·rw [v9a (.inl h78)];simp
theorem V3a {body:Str × Int × List Str→Option (Step (Str × Int × List Str) (Str × List Str))} (enc:Nat→Int) (g:Nat)
  (h:∀(t:Str) (f:Nat) (out:List Str),t.length≤4194304→out.length≤4194305→f≤4194304→body (t,enc f,out)=some (if 78 < t.length then (if cutP t (max f 1)=0 then .out (t,out) else .cont (t.drop (cutP t (max f 1)),enc g,out++ [t.take (cutP t (max f 1))])) else .out (t,out))) (h0:max g 1=1):
  ∀(n:Nat) (t:Str) (f:Nat) (out:List Str),t.length≤n→t.length≤4194304→out.length+t.length≤4194305→f≤4194304→∃last init,iter body (t,enc f,out)=some (last,init)∧init++ [last]=out++wXa t (max f 1):=by
 intro n
 induction n with
 | zero=>
  intro t f out h1 h2 h3 h4
  have hb:=h t f out h2 (by omega) h4
  rw [if_neg (by omega)] at hb
  exact ⟨t,out,zIa hb,by rw [v9a (.inl (by omega))]⟩
 | succ n ih=>
  intro t f out h1 h2 h3 h4
  have hb:=h t f out h2 (by omega) h4
  by_cases h78:78 < t.length
  ·rw [if_pos h78] at hb
   by_cases hc:cutP t (max f 1)=0
   ·rw [if_pos hc] at hb
    exact ⟨t,out,zIa hb,by rw [v9a (.inr hc)]⟩
   ·rw [if_neg hc] at hb
    have hp:=j9a hc
    obtain ⟨last,init,q1,q2⟩:=ih (t.drop (cutP t (max f 1))) g (out++ [t.take (cutP t (max f 1))]) (by simp;omega) (by simp;omega) (by simp;omega) (by omega)
    refine ⟨last,init,(zXa hb).trans q1, ?_⟩
    rw [q2,h0,Qaa h78 hc];simp
  ·rw [if_neg h78] at hb
   exact ⟨t,out,zIa hb,by rw [v9a (.inl h78)]⟩
def txt (n v:Str):Str:=n++ [58,32]++v
def flP (n v:Str):List Str:=wXa (txt n v) (n.length+2)
theorem qkb (t:Str) (f:Nat) (ht:t.length≤4194304) (hf:f≤4194304):∃last init,iter wja (t,(f:Int),([]:List Str))=some (last,init)∧init++ [last]=wXa t (max f 1):=by
 have:=V3a (body:=wja) (fun n=> (n:Int)) 0 (fun t f out h1 h2 h3=> by
  unfold wja
  dsimp only
  by_cases h78:78 < t.length
  ·have hd:decide ((78:Int) < (t.length:Int))=true:=by rw [decide_eq_true_eq];omega
   rw [hd,if_pos h78,WMa t f h1 h3]
   simp only [cond_true,Option.bind_some]
   by_cases hc:cutP t (max f 1)=0
   ·rw [if_pos hc,hc];rfl
   ·have hp:=j9a hc
    have e:(((cutP t (max f 1):Nat):Int)==0)=false:=by rw [beq_eq_false_iff_ne];omega
    rw [if_neg hc,e,K9a (by omega),jca (by omega)]
    simp only [cond_false,Option.bind_some]
    rw [qia (by simp;omega)];rfl
  ·have hd:decide ((78:Int) < (t.length:Int))=false:=by rw [decide_eq_false_iff_not];omega
   rw [hd,if_neg h78];rfl) (by decide) t.length t f [] (Nat.le_refl _) ht (by simp;omega) hf
 simpa using this
theorem ref_loop (t:Str) (f:Nat) (ht:t.length≤4194304) (hf:f≤4194304) (h1f:1≤f):∃last init,iter qPa (t,(f:Int),([]:List Str))=some (last,init)∧init++ [last]=wXa t f:=by
 have:=V3a (body:=qPa) (fun n=> ((max n 1:Nat):Int)) 1 (fun t f out h1 h2 h3=> by
  unfold qPa
  dsimp only
  by_cases h78:78 < t.length
  ·have hd:decide ((78:Int) < (t.length:Int))=true:=by rw [decide_eq_true_eq];omega
   have hc0:=R_cut_eq t (max f 1) out h1 h78 (by omega) (by omega)
   obtain ⟨b10,hb10,hc1⟩:=Option.bind_eq_some_iff.1 hc0
   rw [hd,if_pos h78,hb10]
   simp only [cond_true,Option.bind_some]
   rw [hc1]
   simp only [Option.bind_some]
   by_cases hc:cutP t (max f 1)=0
   ·rw [if_pos hc,hc];rfl
   ·have hp:=j9a hc
    have e:(((cutP t (max f 1):Nat):Int)==0)=false:=by rw [beq_eq_false_iff_ne];omega
    rw [if_neg hc,e,K9a (by omega),jca (by omega)]
    simp only [cond_false,Option.bind_some]
    rw [qia (by simp;omega)];rfl
  ·have hd:decide ((78:Int) < (t.length:Int))=false:=by rw [decide_eq_false_iff_not];omega
   rw [hd,if_neg h78];rfl) (by decide) t.length t f [] (Nat.le_refl _) ht (by simp;omega) hf
 have e:max f 1=f:=by omega
 rw [e] at this
 simpa using this
theorem qlb (n v:Str) (hn:n.length≤1048576) (hv:v.length≤1048576):cat n [58,32]=some (n++ [58,32])∧cat (n++ [58,32]) v=some (txt n v)∧w64 ((n.length:Int)+2)=((n.length+2:Nat):Int):=by
 refine ⟨wna (by simp;omega),wna (by simp;omega), ?_⟩
 rw [kUa (by omega) (by omega)];omega
theorem JFa (n v:Str):(txt n v).length=n.length+2+v.length:=by unfold txt;simp;omega
theorem jNa (n v:Str) (hn:n.length≤1048576) (hv:v.length≤1048576):vwa n v=some (flP n v):=by
 obtain ⟨h1,h2,h3⟩:=qlb n v hn hv
 have hl:=JFa n v
 obtain ⟨last,init,q1,q2⟩:=ref_loop (txt n v) (n.length+2) (by omega) (by omega) (by omega)
 unfold vwa flP
 rw [h1]
 simp only [Option.bind_some]
 rw [h2]
 simp only [Option.bind_some]
 rw [h3,q1]
 simp only [Option.bind_some]
 have hj:=(Qba (txt n v).length (txt n v) (n.length+2) (Nat.le_refl _)).2
 rw [←q2] at hj
 simp at hj
 rw [qia (by simp;omega),q2];rfl
def QWa (i:Nat) (l:Str):Option Int:=if 998 < l.length then some (i:Int) else none
def JGa (n v:Str):List Str × zra:=
 if !fnP n then ([],⟨10, -1⟩) else if 4000 < v.length then ([],⟨1, -1⟩) else if !valP v then ([],⟨11, -1⟩) else match zKa QWa 0 (flP n v) with | some i=> ([],⟨1,i⟩) | none=> (flP n v,⟨0,0⟩)
theorem J9a (n v:Str):(flP n v).length≤n.length+v.length+3:=by
 have:=(Qba (txt n v).length (txt n v) (n.length+2) (Nat.le_refl _)).2
 have hl:=JFa n v
 unfold flP;omega
theorem dec998 (l:Str):decide ((998:Int) < (l.length:Int))=decide (998 < l.length):=by generalize l.length=n;rw [Bool.eq_iff_iff];simp;omega
theorem Qca (n v:Str) (hn:n.length≤1048576) (hv:v.length≤1048576):yFa n v=some (JGa n v):=by
 obtain ⟨h1,h2,h3⟩:=qlb n v hn hv
 have hl:=JFa n v
 obtain ⟨last,init,q1,q2⟩:=qkb (txt n v) (n.length+2) (by omega) (by omega)
 rw [show max (n.length+2) 1=n.length+2 by omega] at q2
 unfold yFa JGa
 rw [Yua n hn,WKa v hv]
 simp only [Option.bind_some,zAa,zTa]
 cases fnP n with
 | false=> rfl
 | true=>
  simp only [Bool.not_true,cond_false,Bool.false_eq_true,if_false]
  by_cases h4:4000 < v.length
  ·have hd:decide ((4000:Int) < (v.length:Int))=true:=by rw [decide_eq_true_eq];omega
   rw [hd,if_pos h4];rfl
  ·have hd:decide ((4000:Int) < (v.length:Int))=false:=by rw [decide_eq_false_iff_not];omega
   rw [hd,if_neg h4]
   simp only [cond_false]
   cases valP v with
   | false=> rfl
   | true=>
    simp only [Bool.not_true,cond_false,Bool.false_eq_true,if_false]
    rw [h1]
    simp only [Option.bind_some]
    rw [h2]
    simp only [Option.bind_some]
    rw [h3,q1]
    simp only [Option.bind_some]
    have hj:=J9a n v
    have hfl:flP n v=init++ [last]:=q2.symm
    have hj2:=hj
    rw [hfl] at hj2
    simp at hj2
    rw [qia (by simp;omega),←hfl]
    simp only [Option.bind_some]
    rw [zHa (flP n v) (fun i l=> (QWa i l).map fun k=> (([]:List Str),(⟨1,k⟩:zra))) (.inl ()) .inr]
    ·simp only [Option.bind_some]
     have hm:∀(l:List Str) (i:Nat),zKa (fun i l=> (QWa i l).map fun k=> (([]:List Str),(⟨1,k⟩:zra))) i l=(zKa QWa i l).map fun k=> (([]:List Str),(⟨1,k⟩:zra)):=by
      intro l
      induction l with
      | nil=> intro i;rfl
      | cons x l ih=> intro i;unfold zKa;rw [ih];cases QWa i x <;> rfl
     rw [hm]
     cases zKa QWa 0 (flP n v) <;> rfl
    ·unfold yla;rw [kca];rfl
    ·intro i l hli
     have hi:=kia hli
     unfold yla QWa
     rw [kLa hli,z3a hli]
     simp only [cond_true,Option.bind_some,dec998,zAa,sc i (by omega)]
     by_cases h9:998 < l.length
     ·simp [h9]
     ·simp [h9]
end Go.Proofs.YtjnmamghadpedaaGreatDoor
namespace Go.Proofs.YtjnmamghadpedaaGreatDoor
open Go.RowKit
set_option maxHeartbeats 1000000
def jOa (f:zfa):Int:=(JGa f.Name f.Value).2.Code
def JHa (l:List Str):Bool:=l.any fun s=> decide (998 < s.length)
theorem V4a (l:List Str):∀n,(zKa QWa n l).isSome=JHa l:=by
 induction l with
 | nil=> intro n;rfl
 | cons x l ih=>
  intro n
  unfold zKa JHa QWa
  by_cases h:998 < x.length
  ·simp [h]
  ·simp only [h,if_false,List.any_cons,decide_false,Bool.false_or]
   exact ih (n+1)
def codeQ (n v:Str):Int:=if !fnP n then 10 else if 4000 < v.length then 1 else if !valP v then 11 else if JHa (flP n v) then 1 else 0
theorem zab (f:zfa):jOa f=codeQ f.Name f.Value:=by
 unfold jOa JGa codeQ
 rw [←V4a (flP f.Name f.Value) 0]
 split
 ·rfl
 ·split
  ·rfl
  ·split
   ·rfl
   ·cases zKa QWa 0 (flP f.Name f.Value) <;> rfl
theorem R_In_60 (s:Str):R_In (s.length:Int) 1 60=some (s !=([]:Str) && decide (s.length≤60)):=by
 rw [yta]
 cases s with
 | nil=> rfl
 | cons c s=>
  have h:decide ((1:Int)≤((c::s).length:Int))=true:=by rw [decide_eq_true_eq];simp;omega
  rw [h,dec60];rfl
theorem elim_int (c:Int) (o:Option Unit) (f:Unit→Option Int):Sum.elim f (fun b=> some b) (o.elim (Sum.inl ()) (fun _=> Sum.inr c):Unit ⊕ Int)=bif o.isSome then some c else f ():=by cases o <;> rfl
theorem Vta (f:zfa) (hn:f.Name.length≤1048576) (hv:f.Value.length≤1048576):wRa f=some (jOa f):=by
 rw [zab]
 unfold wRa
 have hl1:iter (q9a f) 0=some ((zKa (fun _ c=> if !fnC c then some () else none) 0 f.Name).elim (.inl ()) fun _=> .inr 10):=by
  refine zHa f.Name _ (Sum.inl ()) (fun _=> Sum.inr 10) ?_ ?_
  ·unfold q9a;rw [kca];rfl
  ·intro i c hc
   have hi:=kia hc
   unfold q9a
   rw [kLa hc,z3a hc]
   simp only [cond_true,Option.bind_some,yta,wWa c 58 (by decide),yKa 33 c (by decide),yLa 126 c (by decide),sc i (by omega)]
   unfold fnC bne
   cases decide ((33:UInt8)≤c) <;> cases decide (c≤126) <;> cases c==58 <;> rfl
 have hl2:iter (vaa f) 0=some ((zKa (fun _ c=> if endC c then some () else none) 0 f.Value).elim (.inl ()) fun _=> .inr 11):=by
  refine zHa f.Value _ (Sum.inl ()) (fun _=> Sum.inr 11) ?_ ?_
  ·unfold vaa;rw [kca];rfl
  ·intro i c hc
   have hi:=kia hc
   unfold vaa
   rw [kLa hc,z3a hc]
   simp only [cond_true,Option.bind_some,wWa c 0 (by decide),wWa c 10 (by decide),wWa c 13 (by decide),sc i (by omega)]
   unfold endC
   cases c==0 <;> cases c==10 <;> cases c==13 <;> rfl
 have hl3:∀l:List Str,l.length≤4194304→iter (vba l) 0=some ((zKa (fun _ c=> if decide (998 < c.length) then some () else none) 0 l).elim (.inl ()) fun _=> .inr 1):=by
  intro l hl
  refine zHa l _ (Sum.inl ()) (fun _=> Sum.inr 1) ?_ ?_
  ·unfold vba;rw [kca];rfl
  ·intro i c hc
   have hi:=kia hc
   unfold vba
   rw [kLa hc,z3a hc]
   simp only [cond_true,Option.bind_some,dec998,sc i (by omega)]
   cases decide (998 < c.length) <;> rfl
 have hfl:=J9a f.Name f.Value
 rw [hl1]
 simp only [Option.bind_some,elim_int,y5a,QSa,R_In_60,hl2,jNa _ _ hn hv,hl3 _ (show (flP f.Name f.Value).length≤4194304 by omega)]
 have h4:decide ((4000:Int) < (f.Value.length:Int))=decide (4000 < f.Value.length):=by generalize f.Value.length=n;rw [Bool.eq_iff_iff];simp;omega
 have he:(bif decide ((0:Int) < (f.Value.length:Int)) then (idx f.Value 0).bind fun v38=> (vOa v38).bind fun v40=> (bif v40 then some true else (idx f.Value ((w64 ((f.Value.length:Int) - 1)))).bind fun v43=> (vOa v43).bind fun v45=> some v45) else some false)=some (qhb f.Value):=by
  by_cases hn0:f.Value= []
  ·rw [hn0];rfl
  ·obtain ⟨a,b,h1,h2,h3,h4⟩:=J8a f.Value hn0 hv
   have hp:=List.length_pos_iff.2 hn0
   have hd:decide ((0:Int) < (f.Value.length:Int))=true:=by rw [decide_eq_true_eq];omega
   unfold qhb
   rw [h1,h2,h3,h4,hd]
   simp only [Option.bind_some,V2a,cond_true]
   cases wxa a <;> rfl
 rw [he,h4]
 simp only [Option.bind_some]
 unfold codeQ fnP valP JHa
 cases f.Name.all fnC <;> cases (f.Name !=([]:Str)) <;> cases decide (f.Name.length≤60) <;> (try rfl)
 simp only [Bool.and_true,Bool.not_true,Bool.false_eq_true,if_false,cond_false]
 by_cases h4000:4000 < f.Value.length
 ·simp [h4000]
 ·simp only [h4000,decide_false,cond_false,if_false]
  cases f.Value.any endC <;> cases qhb f.Value <;> (try rfl)
  simp only [Bool.not_false,Bool.and_true,Bool.not_true,Bool.false_eq_true,if_false,cond_false]
  cases (flP f.Name f.Value).any fun s=> decide (998 < s.length) <;> rfl
def smallF (l:List zfa):Prop:=l.length≤1048576∧∀f∈l,f.Name.length≤1048576∧f.Value.length≤1048576
def jPa (i:Nat) (f:zfa):Option zra:=if jOa f !=0 then some ⟨jOa f,i⟩ else none
def Zia (l:List zfa):zra:=if 60 < l.length then ⟨2, -1⟩ else (zKa jPa 0 l).getD ⟨0,0⟩
theorem dec60f (l:List zfa):decide ((60:Int) < (l.length:Int))=decide (60 < l.length):=by generalize l.length=n;rw [Bool.eq_iff_iff];simp;omega
theorem Kla (l:List zfa) (h:smallF l):qOa l=some (Zia l):=by
 obtain ⟨h1,h2⟩:=h
 unfold qOa Zia
 rw [zHa l jPa (.inl ()) .inr]
 ·simp only [Option.bind_some,zAa,zTa,j8a,dec60f]
  by_cases h6:60 < l.length <;> simp [h6]
 ·unfold qCa;rw [kca];rfl
 ·intro i f hf
  have hi:=kia hf
  obtain ⟨hn,hv⟩:=h2 f (List.mem_of_getElem? hf)
  unfold qCa jPa
  rw [kLa hf,z3a hf]
  simp only [cond_true,Option.bind_some,Qca _ _ hn hv,kda,zAa,sc i (by omega)]
  show (bif jOa f !=0 then _ else _)=_
  cases jOa f !=0 <;> rfl
theorem Zaa (l:List zfa) (h:(Zia l).Code=0):¬60 < l.length∧zKa jPa 0 l=none∧∀f∈l,jOa f=0:=by
 unfold Zia at h
 by_cases h6:60 < l.length
 ·rw [if_pos h6] at h;simp at h
 ·rw [if_neg h6] at h
  cases hq:zKa jPa 0 l with
  | some y=>
   rw [hq] at h
   obtain ⟨i,f,h1,h2⟩:=y4a hq
   unfold jPa at h2
   exfalso
   by_cases hc:jOa f=0
   ·simp [hc] at h2
   ·have:(jOa f !=0)=true:=by simpa using hc
    rw [this] at h2
    simp at h2
    subst h2
    exact hc h
  | none=>
   refine ⟨h6,rfl,fun f hf=> ?_⟩
   obtain ⟨i,hi⟩:=List.getElem?_of_mem hf
   have:=vsa.1 hq i f hi
   unfold jPa at this
   simpa using this
theorem zbb {f:zfa} (h:jOa f=0):f.Name.length≤60∧f.Value.length≤4000∧JGa f.Name f.Value=(flP f.Name f.Value,⟨0,0⟩)∧∀l∈flP f.Name f.Value,l.length≤998:=by
 have h0:=h
 rw [zab] at h
 unfold codeQ at h
 have h1:fnP f.Name=true:=by cases hx:fnP f.Name with
  | true=> rfl
  | false=> rw [hx] at h;simp at h
 rw [h1] at h
 simp only [Bool.not_true,Bool.false_eq_true,if_false] at h
 have h2:¬4000 < f.Value.length:=by intro hx;rw [if_pos hx] at h;simp at h
 rw [if_neg h2] at h
 have h3:valP f.Value=true:=by cases hx:valP f.Value with
  | true=> rfl
  | false=> rw [hx] at h;simp at h
 rw [h3] at h
 simp only [Bool.not_true,Bool.false_eq_true,if_false] at h
 have h4:JHa (flP f.Name f.Value)=false:=by cases hx:JHa (flP f.Name f.Value) with
  | false=> rfl
  | true=> rw [hx] at h;simp at h
 refine ⟨?_,by omega, ?_, ?_⟩
 ·unfold fnP at h1;simp only [Bool.and_eq_true,decide_eq_true_eq] at h1;exact h1.1.2
 ·unfold JGa
  rw [h1,h3]
  simp only [Bool.not_true,Bool.false_eq_true,if_false,if_neg h2]
  have:=V4a (flP f.Name f.Value) 0
  rw [h4] at this
  cases hx:zKa QWa 0 (flP f.Name f.Value) with
  | none=> rfl
  | some y=> rw [hx] at this;cases this
 ·intro l hl
  unfold JHa at h4
  rw [List.any_eq_false] at h4
  have:=h4 l hl
  simp at this;omega
def addL (a:List UInt8) (l:Str):List UInt8:=a++l++ [13,10]
def addF (a:List UInt8) (f:zfa):List UInt8:=(flP f.Name f.Value).foldl addL a
def zoa (m:zqa):List UInt8:=m.Fields.foldl addF []++ [13,10]++m.Body
theorem zcb (l:List Str) (acc:List UInt8) (hl:l.length≤5000) (h9:∀s∈l,s.length≤998) (ha:acc.length≤1000000000) {body:Int × List UInt8→Option (Step (Int × List UInt8) (List UInt8))}
  (h0:∀s,body ((l.length:Int),s)=some (.out s)) (h1:∀(i:Nat) x s,l[i]? =some x→s.length≤1006000000→body ((i:Int),s)=some (.cont (((i+1:Nat):Int),addL s x))):iter body (0,acc)=some (l.foldl addL acc)∧(l.foldl addL acc).length≤acc.length+1000 * l.length:=
 Ypa l (fun i s=> (i,s)) addL id (fun i s=> s.length≤acc.length+1000 * i) (body:=body) (fun s _=> h0 s) (fun i x s hx hi=> by
  have hlt:=kia hx
  have h9x:=h9 x (List.mem_of_getElem? hx)
  refine ⟨h1 i x s hx (by omega), ?_⟩
  unfold addL;simp;omega) acc (by simp)
theorem Yxa (l:List zfa) (hl:l.length≤60) (hc:∀f∈l,jOa f=0) {body:Int × List UInt8→Option (Step (Int × List UInt8) (List UInt8))}
  (h0:∀s,body ((l.length:Int),s)=some (.out s)) (h1:∀(i:Nat) f s,l[i]? =some f→s.length≤1000000000→body ((i:Int),s)=some (.cont (((i+1:Nat):Int),addF s f))∧(addF s f).length≤s.length+5000000):iter body (0,([]:List UInt8))=some (l.foldl addF [])∧(l.foldl addF []).length≤5000000 * l.length:=
 Ypa l (fun i s=> (i,s)) addF id (fun i s=> s.length≤5000000 * i) (body:=body) (fun s _=> h0 s) (fun i f s hf hi=> by
  have hlt:=kia hf
  obtain ⟨q1,q2⟩:=h1 i f s hf (by omega)
  exact ⟨q1,by omega⟩) [] (by simp)
theorem jfa (m:zqa) (hb:m.Body.length≤1048576) (h60:m.Fields.length≤60) (hc:∀f∈m.Fields,jOa f=0):qYa m=some (zoa m):=by
 unfold qYa zoa
 obtain ⟨h1,h2⟩:=Yxa m.Fields h60 hc (body:=qva m) (fun s=> by unfold qva;rw [kca];rfl) (fun i f s hf hs=> by
  have hi:=kia hf
  obtain ⟨c1,c2,c3,c4⟩:=zbb (hc f (List.mem_of_getElem? hf))
  have hfl:=J9a f.Name f.Value
  obtain ⟨q1,q2⟩:=zcb (flP f.Name f.Value) s (by omega) c4 hs (body:=qua (JGa f.Name f.Value)) (fun s=> by unfold qua;rw [c3,kca];rfl) (fun k x s hx hs=> by
   have hk:=kia hx
   have:=c4 x (List.mem_of_getElem? hx)
   unfold qua
   rw [c3,kLa hx,z3a hx]
   simp only [cond_true,Option.bind_some,sc k (by omega)]
   rw [qia (by omega)]
   simp only [Option.bind_some]
   rw [qia (by simp;omega)];rfl)
  unfold addF
  refine ⟨?_,by omega⟩
  unfold qva
  rw [kLa hf,z3a hf]
  simp only [cond_true,Option.bind_some,Qca f.Name f.Value (by omega) (by omega),q1,sc i (by omega)])
 rw [h1]
 simp only [Option.bind_some]
 rw [qia (by simp;omega)]
 simp only [Option.bind_some]
 rw [qia (by simp;omega)];rfl
theorem KNa (m:zqa) (hb:m.Body.length≤1048576) (h60:m.Fields.length≤60) (hc:∀f∈m.Fields,jOa f=0):vca m=some (zoa m):=by
 unfold vca zoa
 obtain ⟨h1,h2⟩:=Yxa m.Fields h60 hc (body:=qga m) (fun s=> by unfold qga;rw [kca];rfl) (fun i f s hf hs=> by
  have hi:=kia hf
  obtain ⟨c1,c2,c3,c4⟩:=zbb (hc f (List.mem_of_getElem? hf))
  have hfl:=J9a f.Name f.Value
  obtain ⟨q1,q2⟩:=zcb (flP f.Name f.Value) s (by omega) c4 hs (body:=qfa (flP f.Name f.Value)) (fun s=> by unfold qfa;rw [kca];rfl) (fun k x s hx hs=> by
   have hk:=kia hx
   have:=c4 x (List.mem_of_getElem? hx)
   unfold qfa
   rw [kLa hx,z3a hx]
   simp only [cond_true,Option.bind_some,sc k (by omega)]
   rw [qia (by omega)]
   simp only [Option.bind_some]
   rw [qia (by simp;omega)];rfl)
  unfold addF
  refine ⟨?_,by omega⟩
  unfold qga
  rw [kLa hf,z3a hf]
  simp only [cond_true,Option.bind_some,jNa f.Name f.Value (by omega) (by omega),q1,sc i (by omega)])
 rw [h1]
 simp only [Option.bind_some]
 rw [qia (by simp;omega)]
 simp only [Option.bind_some]
 rw [qia (by simp;omega)];rfl
end Go.Proofs.YtjnmamghadpedaaGreatDoor
namespace Go.Proofs.YtjnmamghadpedaaGreatDoor
open Go.RowKit
set_option maxHeartbeats 1000000
def Vua:Nat→List UInt8→Option Bool
 | _, []=> none
 | c, [x]=> if x==13 || x==10 then some true else if 998 < c+1 then some false else none
 | c,x::y::r=> if x==13 && y==10 then Vua 0 r else if x==13 || x==10 then some true else if 998 < c+1 then some false else Vua (c+1) (y::r)
def Kma {O:Type} (e:Bool→O) (c i:Nat) (x:UInt8) (r:List UInt8):Step (Int × Int) (Unit ⊕ O):=
 if x==13 && r.head? ==some 10 then .cont (0,((i+2:Nat):Int)) else if x==13 || x==10 then .out (.inr (e true)) else if 998 < c+1 then .out (.inr (e false)) else .cont (((c+1:Nat):Int),((i+1:Nat):Int))
theorem Yya {O:Type} (e:Bool→O) (l:List UInt8) {body:Int × Int→Option (Step (Int × Int) (Unit ⊕ O))}
  (h0:∀c,body (c,(l.length:Int))=some (.out (.inl ())))
  (hs:∀(c:Nat) (p:List UInt8) x r,l=p++x::r→c≤998→body ((c:Int),(p.length:Int))=some (Kma e c p.length x r)):
  ∀(n:Nat) (r p:List UInt8) (c:Nat),r.length≤n→l=p++r→c≤998→iter body ((c:Int),(p.length:Int))=some ((Vua c r).elim (.inl ()) fun b=> .inr (e b)):=by
 intro n
 induction n with
 | zero=>
  intro r p c hr hl hc
  obtain rfl:r= []:=List.length_eq_zero_iff.1 (by omega)
  have:p=l:=by simp [hl]
  subst this
  exact zIa (h0 _)
 | succ n ih=>
  intro r p c hr hl hc
  match r,hr,hl with
  | [],_,hl=>
   have:p=l:=by simp [hl]
   subst this
   exact zIa (h0 _)
  | [x],hr,hl=>
   have hb:=hs c p x [] hl hc
   unfold Kma at hb
   have e1:(x==13 && ([]:List UInt8).head? ==some 10)=false:=by simp
   rw [e1] at hb
   simp only [Bool.false_eq_true,if_false] at hb
   unfold Vua
   cases hx:(x==13 || x==10) with
   | true=> rw [hx] at hb;exact zIa hb
   | false=>
    rw [hx] at hb
    simp only [Bool.false_eq_true,if_false] at hb ⊢
    by_cases h9:998 < c+1
    ·rw [if_pos h9] at hb ⊢;exact zIa hb
    ·rw [if_neg h9] at hb ⊢
     rw [zXa hb]
     have:=ih [] (p++ [x]) (c+1) (by simp) (by simp [hl]) (by omega)
     rw [List.length_append] at this
     exact this
  | x::y::r,hr,hl=>
   have hb:=hs c p x (y::r) hl hc
   unfold Kma at hb
   have e1:((y::r).head? ==some (10:UInt8))=(y==10):=by simp
   rw [e1] at hb
   unfold Vua
   cases hxy:(x==13 && y==10) with
   | true=>
    rw [hxy] at hb
    simp only [if_true] at hb ⊢
    rw [zXa hb]
    have:=ih r (p++ [x,y]) 0 (by simp at hr;omega) (by simp [hl]) (by omega)
    rw [List.length_append] at this
    exact this
   | false=>
    rw [hxy] at hb
    simp only [Bool.false_eq_true,if_false] at hb ⊢
    cases hx:(x==13 || x==10) with
    | true=> rw [hx] at hb;exact zIa hb
    | false=>
     rw [hx] at hb
     simp only [Bool.false_eq_true,if_false] at hb ⊢
     by_cases h9:998 < c+1
     ·rw [if_pos h9] at hb ⊢;exact zIa hb
     ·rw [if_neg h9] at hb ⊢
      rw [zXa hb]
      have:=ih (y::r) (p++ [x]) (c+1) (by simp at hr ⊢;omega) (by simp [hl]) (by omega)
      rw [List.length_append] at this
      exact this
theorem qmb {l p r:List UInt8} {x:UInt8} (h:l=p++x::r) (hl:l.length≤1048576):(bif decide (((p.length+1:Nat):Int) < (l.length:Int)) then (idx l ((p.length+1:Nat):Int)).bind fun v13=> some (((v13.toNat:Int)==10)) else some false)=some (r.head? ==some 10):=by
 subst h
 simp at hl
 cases r with
 | nil=>
  have:decide (((p.length+1:Nat):Int) < ((p++ [x]).length:Int))=false:=by simp
  rw [this];rfl
 | cons y r=>
  have:decide (((p.length+1:Nat):Int) < ((p++x::y::r).length:Int))=true:=by simp;omega
  rw [this,jLa]
  have:(p++x::y::r)[p.length+1]? =some y:=by simp [List.getElem?_append_right]
  rw [this]
  simp only [cond_true,Option.bind_some,wWa y 10 (by decide)]
  simp
theorem WOa (l:List UInt8) (hl:l.length≤1048576):yGa l=some ((Vua 0 l).elim 0 fun b=> bif b then 11 else 1):=by
 unfold yGa
 have:=Yya (fun b:Bool=> bif b then (11:Int) else 1) l (body:=qZa l) (fun c=> by unfold qZa;rw [kca];rfl) (fun c p x r h hc=> by
  have hx:l[p.length]? =some x:=by simp [h]
  have hi:=kia hx
  unfold qZa vNa Kma
  dsimp only
  rw [kLa hx,z3a hx]
  simp only [cond_true,Option.bind_some,wWa x 13 (by decide),wWa x 10 (by decide),sc p.length (by omega),sc (p.length+1) (by omega),sc c (by omega)]
  rw [qmb h hl]
  have h9:decide ((998:Int) < ((c+1:Nat):Int))=decide (998 < c+1):=by rw [Bool.eq_iff_iff];simp;omega
  rw [h9]
  by_cases h98:998 < c+1 <;> simp only [h98,decide_true,decide_false,if_true,if_false] <;> cases x==13 <;> cases x==10 <;> cases r.head? ==some 10 <;> rfl) l.length l [] 0 (Nat.le_refl _) rfl (by omega)
 have h2:iter (qZa l) (0,0)=_:=this
 rw [h2]
 cases Vua 0 l with
 | none=> rfl
 | some b=> cases b <;> rfl
def bodyF (l:List UInt8):zra:=(Vua 0 l).elim ⟨0,0⟩ fun b=> bif b then ⟨11, -5⟩ else ⟨1, -6⟩
theorem QXa (l:List UInt8) (hl:l.length≤1048576):wka l=some (bodyF l):=by
 unfold wka bodyF
 rw [WOa l hl]
 cases Vua 0 l with
 | none=> rfl
 | some b=> cases b <;> rfl
def msgF (m:zqa):zra:=if (Zia m.Fields).Code !=0 then Zia m.Fields else if 12000 < (zoa m).length then ⟨1, -4⟩ else bodyF m.Body
def yoa (m:zqa):Prop:=smallF m.Fields∧m.Body.length≤1048576
theorem wYa (m:zqa) (h:yoa m):kXa m=some (msgF m):=by
 obtain ⟨h1,h2⟩:=h
 unfold kXa msgF
 rw [Kla _ h1]
 simp only [Option.bind_some,kda,zAa,QXa _ h2]
 cases hc:(Zia m.Fields).Code !=0 with
 | true=> rfl
 | false=>
  obtain ⟨q1,q2,q3⟩:=Zaa m.Fields (by simpa using hc)
  rw [jfa m h2 (by omega) q3]
  simp only [Option.bind_some,cond_false,Bool.false_eq_true,if_false]
  have:decide ((12000:Int) < ((zoa m).length:Int))=decide (12000 < (zoa m).length):=by generalize (zoa m).length=n;rw [Bool.eq_iff_iff];simp;omega
  rw [this]
  by_cases hb:12000 < (zoa m).length <;> simp [hb]
theorem KOa (m:zqa) (h:yoa m):qya m=some (msgF m):=by
 obtain ⟨⟨h1,h3⟩,h2⟩:=h
 unfold qya msgF
 rw [zHa m.Fields jPa (.inl ()) .inr]
 ·have hbl:iter (kNa m) (0,0)=_:=Yya (fun b:Bool=> bif b then (⟨11, -5⟩:zra) else ⟨1, -6⟩) m.Body (body:=kNa m) (fun c=> by unfold kNa;rw [kca];rfl) (fun c p x r h hc=> by
   have hx:m.Body[p.length]? =some x:=by simp [h]
   have hi:=kia hx
   unfold kNa qha Kma
   dsimp only
   rw [kLa hx,z3a hx]
   simp only [cond_true,Option.bind_some,wWa x 13 (by decide),wWa x 10 (by decide),sc p.length (by omega),sc (p.length+1) (by omega),sc c (by omega),ZMa]
   rw [qmb h h2]
   have h9:decide ((998:Int) < ((c+1:Nat):Int))=decide (998 < c+1):=by rw [Bool.eq_iff_iff];simp;omega
   rw [h9]
   by_cases h98:998 < c+1 <;> simp only [h98,decide_true,decide_false,if_true,if_false] <;> cases x==13 <;> cases x==10 <;> cases r.head? ==some 10 <;> rfl) m.Body.length m.Body [] 0 (Nat.le_refl _) rfl (by omega)
  rw [hbl,dec60f]
  simp only [Option.bind_some,ZMa]
  by_cases h6:60 < m.Fields.length
  ·have:Zia m.Fields=⟨2, -1⟩:=by unfold Zia;rw [if_pos h6]
   rw [this];simp [h6]
  ·simp only [h6,decide_false,cond_false]
   have hh:Zia m.Fields=(zKa jPa 0 m.Fields).getD ⟨0,0⟩:=by unfold Zia;rw [if_neg h6]
   cases hq:zKa jPa 0 m.Fields with
   | some y=>
    rw [hq] at hh
    have hc:((Zia m.Fields).Code !=0)=true:=by
     cases hc:(Zia m.Fields).Code !=0 with
     | true=> rfl
     | false=>
      obtain ⟨_,q2,_⟩:=Zaa m.Fields (by simpa using hc)
      rw [hq] at q2;cases q2
    rw [hc,hh];rfl
   | none=>
    rw [hq] at hh
    have hz:Zia m.Fields=⟨0,0⟩:=hh
    obtain ⟨q1,q2,q3⟩:=Zaa m.Fields (by rw [hz])
    rw [KNa m h2 (by omega) q3,hz]
    simp only [Option.bind_some,Option.elim_none,Sum.elim_inl]
    have hbb:m.Body.length≤(zoa m).length:=by unfold zoa;simp;omega
    have e2:(bif decide ((12000:Int) < (m.Body.length:Int)) then some true else some (decide ((12000:Int) < ((zoa m).length:Int))))=some (decide (12000 < (zoa m).length)):=by
     generalize (zoa m).length=n at *
     by_cases hx:12000 < m.Body.length
     ·have e3:decide ((12000:Int) < (m.Body.length:Int))=true:=by rw [decide_eq_true_eq];omega
      have e4:decide (12000 < n)=true:=by rw [decide_eq_true_eq];omega
      rw [e3,e4];rfl
     ·have e3:decide ((12000:Int) < (m.Body.length:Int))=false:=by rw [decide_eq_false_iff_not];omega
      rw [e3]
      simp only [cond_false,Option.some.injEq]
      rw [Bool.eq_iff_iff];simp;omega
    rw [e2]
    simp only [Option.bind_some]
    unfold bodyF
    by_cases hb:12000 < (zoa m).length
    ·simp [hb]
    ·simp only [hb,decide_false,cond_false,if_false]
     cases Vua 0 m.Body <;> rfl
 ·unfold q0a;rw [kca];rfl
 ·intro i f hf
  have hi:=kia hf
  obtain ⟨hn,hv⟩:=h3 f (List.mem_of_getElem? hf)
  unfold q0a jPa
  rw [kLa hf,z3a hf]
  simp only [cond_true,Option.bind_some,Vta _ hn hv,ZMa,sc i (by omega)]
  cases jOa f !=0 <;> rfl
end Go.Proofs.YtjnmamghadpedaaGreatDoor
namespace Go.Proofs.YtjnmamghadpedaaGreatDoor
open Go.RowKit
set_option maxHeartbeats 1000000
instance:DecidableEq zca:=fun a b=> decidable_of_iff (a.Address=b.Address∧a.Notify=b.Notify) (by cases a;cases b;simp)
instance:DecidableEq zra:=fun a b=> decidable_of_iff (a.Code=b.Code∧a.Index=b.Index) (by cases a;cases b;simp)
instance:DecidableEq zxa:=fun a b=> decidable_of_iff (a.From=b.From∧a.To=b.To∧a.Id=b.Id) (by cases a;cases b;simp)
end Go.Proofs.YtjnmamghadpedaaGreatDoor
namespace Go.Proofs.YtjnmamghadpedaaGreatDoor
open Go.RowKit
set_option maxHeartbeats 1000000
def QYa (s:Str) (r:zca):Bool:=r.Address==s
def hasA (out:List zca) (s:Str):Bool:=out.any (QYa s)
def putR (out:List zca) (r:zca):List zca:=if hasA out r.Address then out.map (fun x=> if QYa r.Address x then ⟨x.Address,iOr x.Notify r.Notify⟩ else x) else out++ [r]
end Go.Proofs.YtjnmamghadpedaaGreatDoor
namespace Go.Proofs.YtjnmamghadpedaaGreatDoor
open Go.RowKit
set_option maxHeartbeats 1000000
def posA (out:List zca) (s:Str):Option Nat:=out.findIdx? (QYa s)
theorem posA_has (out:List zca) (s:Str):(posA out s).isSome=hasA out s:=by unfold posA hasA;exact List.findIdx?_isSome
theorem posA_app (out:List zca) (r:zca) (s:Str) (h:hasA out r.Address=false):posA (out++ [r]) s=if r.Address==s then some out.length else posA out s:=by
 unfold posA
 rw [List.findIdx?_append]
 by_cases hs:(r.Address==s)=true
 ·rw [if_pos hs]
  have e:r.Address=s:=beq_iff_eq.1 hs
  subst e
  have:out.findIdx? (QYa r.Address)=none:=by
   have:=posA_has out r.Address
   rw [h] at this
   unfold posA at this
   simpa using this
  rw [this]
  simp [QYa]
 ·rw [if_neg hs]
  have:QYa s r=false:=by unfold QYa;simpa using hs
  simp [List.findIdx?_cons,this]
theorem posA_map (out:List zca) (f:zca→zca) (hf:∀x,(f x).Address=x.Address) (s:Str):posA (out.map f) s=posA out s:=by
 unfold posA
 rw [List.findIdx?_map]
 congr 1
 funext x
 simp [Function.comp,QYa,hf]
structure MInv (i:Nat) (out:List zca) (m:List (Str × Int)):Prop where
 len:out.length≤i
 nd:(out.map (·.Address)).Nodup
 mp:∀s,mget m s=(posA out s).map fun k=> ((k:Nat):Int)
theorem MInv.put {i:Nat} {out:List zca} {m:List (Str × Int)} (h:MInv i out m) (r:zca):MInv (i+1) (putR out r) (if hasA out r.Address then m else mput m r.Address (out.length:Int)):=by
 unfold putR
 cases hh:hasA out r.Address with
 | true=>
  simp only [if_true]
  have hf:∀x:zca,(if QYa r.Address x then (⟨x.Address,iOr x.Notify r.Notify⟩:zca) else x).Address=x.Address:=by intro x;split <;> rfl
  refine ⟨by simp;have:=h.len;omega, ?_,fun s=> ?_⟩
  ·rw [List.map_map,show ((·.Address) ∘ fun x:zca=> if QYa r.Address x then (⟨x.Address,iOr x.Notify r.Notify⟩:zca) else x)=(·.Address) from funext hf];exact h.nd
  ·rw [posA_map _ _ hf];exact h.mp s
 | false=>
  simp only [Bool.false_eq_true,if_false]
  refine ⟨by simp;exact h.len, ?_,fun s=> ?_⟩
  ·rw [List.map_append,List.nodup_append]
   refine ⟨h.nd,by simp, ?_⟩
   intro a ha b hb
   simp at hb;subst hb
   rintro rfl
   obtain ⟨x,hx,hxe⟩:=List.mem_map.1 ha
   unfold hasA at hh
   rw [List.any_eq_false] at hh
   exact hh x hx (by simp [QYa,hxe])
  ·rw [zWb,posA_app _ _ _ hh,h.mp s]
   by_cases hs:(r.Address==s)=true
   ·rw [if_pos hs,if_pos hs];rfl
   ·rw [if_neg hs,if_neg hs]
end Go.Proofs.YtjnmamghadpedaaGreatDoor
namespace Go.Proofs.YtjnmamghadpedaaGreatDoor
open Go.RowKit
theorem recF_ok (l:List zca) (h:(recF l).Code=0):recF l=⟨0,0⟩:=by
 unfold recF at h ⊢
 cases hf:zKa (recQ l) 0 l with
 | none=> rfl
 | some f=>
  exfalso
  obtain ⟨i,x,hx,hq⟩:=y4a hf
  rw [hf] at h
  unfold recQ at hq
  split at hq
  ·cases hq;simp at h
  ·split at hq
   ·cases hq;simp at h
   ·split at hq
    ·cases hq;simp at h
    ·cases hq
theorem envF_ok (e:zxa) (h:(envF e).Code=0):envF e=⟨0,0⟩:=by
 unfold envF at h ⊢
 split
 ·rename_i h1;rw [if_pos h1] at h;simp at h
 ·rename_i h1
  rw [if_neg h1] at h
  split
  ·rename_i h2;rw [if_pos h2] at h;simp at h
  ·rename_i h2
   rw [if_neg h2] at h
   split
   ·rename_i h3;rw [if_pos h3] at h;simp at h
   ·rename_i h3
    rw [if_neg h3] at h
    exact recF_ok _ h
end Go.Proofs.YtjnmamghadpedaaGreatDoor
namespace Go.Proofs.YtjnmamghadpedaaGreatDoor
open Go.RowKit
set_option maxHeartbeats 1000000
theorem qnb {m:zqa} (h:zqa.bk m≤1048576):yoa m:=by
 unfold zqa.bk at h
 have h1:=Jya (bk:=zfa.bk) (fun x=> by unfold zfa.bk;omega) m.Fields
 have h2:=Jya (bk:=fun _:UInt8=> 1) (fun x=> by simp) m.Body
 refine ⟨⟨by omega,fun f hf=> ?_⟩,by omega⟩
 have h5:=qab (bk:=zfa.bk) hf
 have h6:zfa.bk f=f.Name.length+1+(f.Value.length+1)+1:=rfl
 omega
def y7a (m:zVa):zra:=if (envF m.Envelope).Code !=0 then envF m.Envelope else if (msgF m.Message).Code !=0 then ⟨(msgF m.Message).Code, -30⟩ else ⟨0,0⟩
theorem KPa (m:zVa) (h1:jea m.Envelope) (h2:yoa m.Message):q8a m=some (y7a m):=by
 unfold q8a y7a
 rw [Zha _ h1,wYa _ h2]
 simp only [Option.bind_some,kda,zAa,zTa]
 cases (envF m.Envelope).Code !=0 <;> cases (msgF m.Message).Code !=0 <;> rfl
theorem Vva (m:zVa) (h1:jea m.Envelope) (h2:yoa m.Message):wSa m=some (y7a m):=by
 unfold wSa y7a
 rw [Kja _ h1,KOa _ h2]
 simp only [Option.bind_some,ZMa]
 by_cases hc:(envF m.Envelope).Code=0
 ·have hz:=envF_ok _ hc
  rw [hz]
  cases h:(msgF m.Message).Code !=0 <;> simp [h]
 ·have e1:((envF m.Envelope).Code !=0)=true:=by simpa using hc
  have e2:((envF m.Envelope).Code==0)=false:=by simpa using hc
  rw [e1,e2]
  simp only [cond_false,Option.bind_some,if_true]
end Go.Proofs.YtjnmamghadpedaaGreatDoor
namespace Go.Proofs.YtjnmamghadpedaaGreatDoor
open Go.RowKit
set_option maxHeartbeats 1000000
end Go.Proofs.YtjnmamghadpedaaGreatDoor
namespace Go.Proofs.YtjnmamghadpedaaGreatDoor
open Go.RowKit
set_option maxHeartbeats 1000000
theorem QZa {m:zVa} (h:(y7a m).Code=0):(envF m.Envelope).Code=0∧(msgF m.Message).Code=0:=by
 unfold y7a at h
 by_cases h1:(envF m.Envelope).Code=0
 ·refine ⟨h1, ?_⟩
  have e:((envF m.Envelope).Code !=0)=false:=by simp [h1]
  rw [e] at h
  simp only [Bool.false_eq_true,if_false] at h
  cases hc:(msgF m.Message).Code !=0 with
  | false=> simpa using hc
  | true=> rw [hc] at h;simpa using h
 ·have e:((envF m.Envelope).Code !=0)=true:=by simpa using h1
  rw [e] at h
  simp only [if_true] at h
  exact absurd h h1
theorem Yza {m:zqa} (h:(msgF m).Code=0):(Zia m.Fields).Code=0:=by
 unfold msgF at h
 cases hc:(Zia m.Fields).Code !=0 with
 | false=> simpa using hc
 | true=> rw [hc] at h;simpa using h
end Go.Proofs.YtjnmamghadpedaaGreatDoor
namespace Go.Proofs.YtjnmamghadpedaaGreatDoor
open Go.RowKit
set_option maxHeartbeats 1000000
instance:DecidableEq zfa:=fun a b=> decidable_of_iff (a.Name=b.Name∧a.Value=b.Value) (by cases a;cases b;simp)
instance:DecidableEq zqa:=fun a b=> decidable_of_iff (a.Fields=b.Fields∧a.Body=b.Body) (by cases a;cases b;simp)
instance:DecidableEq zVa:=fun a b=> decidable_of_iff (a.Envelope=b.Envelope∧a.Message=b.Message) (by cases a;cases b;simp)
end Go.Proofs.YtjnmamghadpedaaGreatDoor
namespace Go.Proofs.YtjnmamghadpedaaGreatDoor
open Go.RowKit
set_option maxHeartbeats 1000000
theorem Kna (m:zqa) (hf:m.Fields.length≤1048576):vPa m m=some true:=by
 unfold vPa
 have e1:((m.Fields.length:Int) !=(m.Fields.length:Int))=false:=by simp
 have e2:(m.Body !=m.Body)=false:=by simp
 rw [e1,e2]
 simp only [cond_false,Option.bind_some]
 rw [zHa m.Fields (fun _ _=> none) (.inl ()) .inr]
 ·have:zKa (fun _ _=> (none:Option Bool)) 0 m.Fields=none:=by rw [vsa];intro i x _;rfl
  simp only [Option.bind_some]
  rw [this];rfl
 ·unfold vka;rw [kca];rfl
 ·intro i f hx
  have hi:=kia hx
  unfold vka
  rw [kLa hx,z3a hx]
  simp only [cond_true,Option.bind_some,sc i (by omega)]
  simp [wqa]
theorem Q0a (m:zVa) (h1:m.Envelope.To.length≤1048576) (h2:m.Message.Fields.length≤1048576):yHa m m=some true:=by
 unfold yHa
 have e1:(m.Envelope.From !=m.Envelope.From)=false:=by simp
 have e2:(m.Envelope.Id !=m.Envelope.Id)=false:=by simp
 have e3:((m.Envelope.To.length:Int) !=(m.Envelope.To.length:Int))=false:=by simp
 rw [e1,e2,e3]
 simp only [cond_false,Option.bind_some]
 rw [zHa m.Envelope.To (fun _ _=> none) (.inl ()) .inr]
 ·have:zKa (fun _ _=> (none:Option Bool)) 0 m.Envelope.To=none:=by rw [vsa];intro i x _;rfl
  simp only [Option.bind_some]
  rw [this]
  simp only [Option.elim_none,Sum.elim_inl]
  rw [Kna _ h2];rfl
 ·unfold wCa;rw [kca];rfl
 ·intro i f hx
  have hi:=kia hx
  unfold wCa
  rw [kLa hx,z3a hx]
  simp only [cond_true,Option.bind_some,sc i (by omega)]
  simp [wqa]
end Go.Proofs.YtjnmamghadpedaaGreatDoor
namespace Go.Proofs.YtjnmamghadpedaaGreatDoor
open Go.RowKit
set_option maxHeartbeats 1000000
end Go.Proofs.YtjnmamghadpedaaGreatDoor
namespace Go.Proofs.YtjnmamghadpedaaGreatDoor
open Go.RowKit
set_option maxHeartbeats 1000000
end Go.Proofs.YtjnmamghadpedaaGreatDoor
namespace Go.Proofs.YtjnmamghadpedaaGreatDoor
open Go.RowKit
set_option maxHeartbeats 2000000
theorem and_some (a b:Bool):(bif a then some b else some false:Option Bool)=some (a && b):=by cases a <;> rfl
theorem or_some (a b:Bool):(bif a then some true else some b:Option Bool)=some (a || b):=by cases a <;> rfl
def Q1a (c:zta):Bool:=(c.Verb==1 || c.Name==([]:Str)) && (c.Verb==2 || c.Verb==3 || c.Address==([]:Str)) && (c.Verb==2 || c.Verb==5 || c.Size==0) && (c.Verb==3 || c.Notify==0) && (c.Verb==5 || c.Last==false)
def cmdF (c:zta):zra:=
 bif decide (c.Verb < 1) || decide (8 < c.Verb) then ⟨4, -2⟩ else bif !Q1a c then ⟨5, -3⟩ else bif c.Verb==1 && !yba c.Name then ⟨10, -4⟩ else
 bif (c.Verb==3 || (c.Verb==2 && c.Address !=([]:Str))) && !vTa c.Address then ⟨10, -5⟩ else bif decide (c.Size < 0) || decide (1000000 < c.Size) then ⟨3, -6⟩ else
 bif !jna c.Notify then ⟨3, -7⟩ else ⟨0,0⟩
theorem five (v:Int):v=1∨v=2∨v=3∨v=5∨((v==1)=false∧(v==2)=false∧(v==3)=false∧(v==5)=false):=by
 simp only [beq_eq_false_iff_ne]
 omega
theorem used_eq (c:zta):∃u,wla c=some u∧wqa [(c.Verb==u.Verb),(c.Name==u.Name),(c.Address==u.Address),(c.Size==u.Size),(c.Notify==u.Notify),(c.Last==u.Last)]=Q1a c:=by
 obtain ⟨v,n,a,s,o,l⟩:=c
 rcases five v with rfl | rfl | rfl | rfl | ⟨h1,h2,h3,h5⟩
 ·exact ⟨⟨1,n, [],0,0,false⟩,rfl,by simp [wqa,Q1a,Bool.and_assoc]⟩
 ·exact ⟨⟨2, [],a,s,0,false⟩,rfl,by simp [wqa,Q1a,Bool.and_assoc]⟩
 ·exact ⟨⟨3, [],a,0,o,false⟩,rfl,by simp [wqa,Q1a,Bool.and_assoc]⟩
 ·exact ⟨⟨5, [], [],s,0,l⟩,rfl,by simp [wqa,Q1a,Bool.and_assoc]⟩
 ·refine ⟨⟨v, [], [],0,0,false⟩, ?_, ?_⟩
  ·unfold wla
   dsimp only
   rw [h1,h2,h3,h5];rfl
  ·unfold Q1a
   dsimp only
   rw [h1,h2,h3,h5]
   simp [wqa,Bool.and_assoc]
def JIa (c:zta):Prop:=c.Name.length≤1048576∧c.Address.length≤1048576
theorem ZNa (c:zta) (h:JIa c):qwa c=some (cmdF c):=by
 obtain ⟨u,hu,he⟩:=used_eq c
 unfold qwa cmdF
 rw [hu]
 simp only [Option.bind_some,he,y6a _ h.1,vta _ (show c.Address.length < 4294967281 by have:=h.2;omega),yna,zAa,zTa,and_some,or_some]
 cases decide (c.Verb < 1) || decide (8 < c.Verb) with
 | true=> rfl
 | false=>
  cases Q1a c with
  | false=> rfl
  | true=>
   cases c.Verb==1 && !yba c.Name with
   | true=> rfl
   | false=>
    cases (c.Verb==3 || (c.Verb==2 && c.Address !=([]:Str))) && !vTa c.Address with
    | true=> rfl
    | false=>
     cases decide (c.Size < 0) || decide (1000000 < c.Size) with
     | true=> rfl
     | false=> cases jna c.Notify <;> rfl
structure KQa (c:zta):Prop where
 verb:1≤c.Verb∧c.Verb≤8
 used:Q1a c=true
 name:c.Verb=1→yba c.Name=true
 addr:c.Verb=3∨(c.Verb=2∧c.Address≠ [])→vTa c.Address=true
 size:0≤c.Size∧c.Size≤1000000
 note:0≤c.Notify∧c.Notify≤7
theorem cmdF_ok {c:zta} (h:(cmdF c).Code=0):KQa c∧cmdF c=⟨0,0⟩:=by
 unfold cmdF at h ⊢
 cases h1:decide (c.Verb < 1) || decide (8 < c.Verb) with
 | true=> rw [h1] at h;exact absurd h (show (4:Int)≠0 by decide)
 | false=>
  rw [h1] at h
  cases h2:Q1a c with
  | false=> rw [h2] at h;exact absurd h (show (5:Int)≠0 by decide)
  | true=>
   rw [h2] at h
   cases h3:c.Verb==1 && !yba c.Name with
   | true=> rw [h3] at h;exact absurd h (show (10:Int)≠0 by decide)
   | false=>
    rw [h3] at h
    cases h4:(c.Verb==3 || (c.Verb==2 && c.Address !=([]:Str))) && !vTa c.Address with
    | true=> rw [h4] at h;exact absurd h (show (10:Int)≠0 by decide)
    | false=>
     rw [h4] at h
     cases h5:decide (c.Size < 0) || decide (1000000 < c.Size) with
     | true=> rw [h5] at h;exact absurd h (show (3:Int)≠0 by decide)
     | false=>
      rw [h5] at h
      cases h6:jna c.Notify with
      | false=> rw [h6] at h;exact absurd h (show (3:Int)≠0 by decide)
      | true=>
       simp only [Bool.or_eq_false_iff,decide_eq_false_iff_not] at h1 h5
       unfold jna at h6
       simp only [Bool.and_eq_true,decide_eq_true_eq] at h6
       refine ⟨⟨by omega,h2,fun hv=> ?_,fun hv=> ?_,by omega,h6⟩,rfl⟩
       ·rw [hv] at h3
        simpa using h3
       ·cases ha:vTa c.Address with
        | true=> rfl
        | false=>
         rw [ha] at h4
         rcases hv with hv | ⟨hv,hn⟩
         ·rw [hv] at h4;simp at h4
         ·rw [hv] at h4
          simp at h4
          exact absurd h4 hn
def wordL:List Str:= [[104,101,108,108,111], [109,97,105,108], [114,99,112,116], [100,97,116,97], [99,104,117,110,107], [114,101,115,101,116], [110,111,111,112], [113,117,105,116]]
def condL:List Str:= [[110,101,118,101,114], [102,97,105,108,117,114,101], [100,101,108,97,121], [102,97,105,108,117,114,101,44,100,101,108,97,121], [115,117,99,99,101,115,115], [102,97,105,108,117,114,101,44,115,117,99,99,101,115,115], [100,101,108,97,121,44,115,117,99,99,101,115,115], [102,97,105,108,117,114,101,44,100,101,108,97,121,44,115,117,99,99,101,115,115]]
def z4b (v:Int):Str:=wordL.getD (v - 1).toNat []
def condT (n:Int):Str:=condL.getD n.toNat []
def argT (c:zta):List Str:=
 if c.Verb=1 then [c.Name] else if c.Verb=2 then ([60]++c.Address++ [62])::(if c.Size=0 then [] else [[115,105,122,101,61]++Lib.decDigits c.Size.toNat]) else
 if c.Verb=3 then ([60]++c.Address++ [62])::(if c.Notify=1 then [] else [[110,111,116,105,102,121,61]++condT c.Notify]) else
 if c.Verb=5 then Lib.decDigits c.Size.toNat::(if c.Last then [[108,97,115,116]] else []) else []
def Vwa (w:Str) (l:List Str):Str:=w++(l.map fun s=> (32:UInt8)::s).flatten
def cmdT (c:zta):Str:=Vwa (z4b c.Verb) (argT c)
def condsV:zia × zia × zia:=((zia.mk 1 (([102,97,105,108,117,114,101]:Str))),(zia.mk 2 (([100,101,108,97,121]:Str))),(zia.mk 4 (([115,117,99,99,101,115,115]:Str))))
instance:DecidableEq (Step (Int × List Str) (List Str)):=fun a b=> match a,b with
 | .cont x, .cont y=> decidable_of_iff (x=y) (by simp)
 | .out x, .out y=> decidable_of_iff (x=y) (by simp)
 | .cont x, .out y=> isFalse (by simp)
 | .out x, .cont y=> isFalse (by simp)
def z5b (n:Nat):List Str:=(if n % 2=1 then [[102,97,105,108,117,114,101]] else [])++(if n / 2 % 2=1 then [[100,101,108,97,121]] else [])++(if n / 4 % 2=1 then [[115,117,99,99,101,115,115]] else [])
theorem qob:∀n:Fin 8,Zda (v6a (n.val:Int) condsV) 4 (0, [])=some (z5b n.val):=by decide+kernel
theorem YAa:∀n:Fin 8,(if z5b n.val= [] then ([110,101,118,101,114]:Str) else Lib.join (z5b n.val) [44])=condL.getD n.val []∧(z5b n.val).length≤3∧(condL.getD n.val []).length≤100:=by decide+kernel
theorem KRa {n:Int} (h:0≤n∧n≤7):vea n=some (condT n):=by
 have h1:=qob ⟨n.toNat,by omega⟩
 obtain ⟨h2,h3,h4⟩:=YAa ⟨n.toNat,by omega⟩
 dsimp only at h1 h2 h3 h4
 rw [show ((n.toNat:Nat):Int)=n by omega] at h1
 unfold vea
 have hc:qDa=some condsV:=rfl
 rw [hc]
 simp only [Option.bind_some]
 rw [ZWa.2 ⟨4,h1⟩]
 simp only [Option.bind_some]
 unfold condT
 by_cases he:z5b n.toNat= []
 ·rw [if_pos he] at h2
  rw [he,←h2]
  rfl
 ·rw [if_neg he] at h2
  have e:(((z5b n.toNat).length:Int)==0)=false:=by
   rw [beq_eq_false_iff_ne]
   have:=List.length_pos_iff.2 he
   omega
  rw [e]
  simp only [cond_false]
  unfold qRa
  rw [if_pos ⟨by omega,by rw [h2];omega⟩,h2]
  rfl
theorem YBa {n:Int} (h:0≤n∧n≤7):(condT n).length≤100:=(YAa ⟨n.toNat,by omega⟩).2.2
theorem qpb:∀k:Fin 8,wordL[k.val]? =some (z4b ((k.val:Int)+1))∧(z4b ((k.val:Int)+1)).length≤5:=by decide
theorem zdb {v:Int} (h:1≤v∧v≤8):idx wordL (w64 (v - 1))=some (z4b v)∧(z4b v).length≤5:=by
 have:=qpb ⟨(v - 1).toNat,by omega⟩
 dsimp only at this
 rw [show (((v - 1).toNat:Nat):Int)+1=v by omega] at this
 rw [kUa (by omega) (by omega),show v - 1=(((v - 1).toNat:Nat):Int) by omega,jLa]
 exact this
theorem Qla:wDa=some (([104,101,108,108,111]:Str),([109,97,105,108]:Str),([114,99,112,116]:Str),([100,97,116,97]:Str),([99,104,117,110,107]:Str),([114,101,115,101,116]:Str),([110,111,111,112]:Str),([113,117,105,116]:Str)):=rfl
theorem addr_len {a:Str} (h:vTa a=true):a.length≤121:=by
 unfold vTa at h
 simp only [Bool.and_eq_true,decide_eq_true_eq] at h
 obtain ⟨⟨⟨⟨h1,h2⟩,h3⟩,h4⟩,h5⟩:=h
 unfold domP at h5
 simp only [Bool.and_eq_true,decide_eq_true_eq,List.length_drop] at h5
 omega
theorem Q2a {c:zta} (ok:KQa c):c.Address.length≤121:=by
 by_cases h:c.Address= []
 ·rw [h];simp
 ·refine addr_len (ok.addr ?_)
  have hu:=ok.used
  unfold Q1a at hu
  simp only [Bool.and_eq_true,Bool.or_eq_true,beq_iff_eq] at hu
  rcases hu.1.1.1.2 with (h2 | h2) | h2
  ·exact .inr ⟨h2,h⟩
  ·exact .inl h2
  ·exact absurd h2 h
theorem Qma (c:zta) (h:JIa c):vRa c=some (bif (cmdF c).Code !=0 then ([],cmdF c) else (cmdT c,⟨0,0⟩)):=by
 unfold vRa
 rw [ZNa c h,Qla]
 simp only [Option.bind_some,kda,zTa]
 cases hc:(cmdF c).Code !=0 with
 | true=> rfl
 | false=>
  obtain ⟨ok,_⟩:=cmdF_ok (c:=c) (by simpa using hc)
  obtain ⟨hw,hwl⟩:=zdb ok.verb
  have hal:=Q2a ok
  have hs:=ok.size
  simp only [cond_false]
  rw [show ([([104,101,108,108,111]:Str),([109,97,105,108]:Str),([114,99,112,116]:Str),([100,97,116,97]:Str),([99,104,117,110,107]:Str),([114,101,115,101,116]:Str),([110,111,111,112]:Str),([113,117,105,116]:Str)]:List Str)=wordL from rfl,hw]
  simp only [Option.bind_some]
  have hit:kKa c.Size=some (Lib.decDigits c.Size.toNat):=by
   have:=QPa c.Size.toNat (by omega)
   rw [show ((c.Size.toNat:Nat):Int)=c.Size by omega] at this
   exact this
  have hdl:=WEa 6 c.Size.toNat (by omega)
  have hnt:=YBa ok.note
  unfold cmdT
  generalize hW:z4b c.Verb=W at hwl ⊢
  rcases five c.Verb with h1 | h1 | h1 | h1 | ⟨h1,h2,h3,h5⟩
  ·have hn:=ok.name h1
   have hnl:=(QTa hn).2
   unfold argT
   rw [if_pos h1,h1]
   simp only [show ((1:Int)==1)=true from rfl,cond_true]
   rw [wna (by simp;omega)]
   simp only [Option.bind_some]
   rw [wna (by simp;omega)]
   simp [Vwa]
  ·unfold argT
   rw [if_neg (by omega),if_pos h1,h1]
   simp only [show ((2:Int)==1)=false from rfl,show ((2:Int)==2)=true from rfl,cond_true,cond_false]
   rw [wna (by simp;omega)]
   simp only [Option.bind_some]
   rw [wna (by simp;omega)]
   simp only [Option.bind_some]
   rw [wna (by simp;omega)]
   simp only [Option.bind_some]
   by_cases hz:c.Size=0
   ·rw [if_pos hz,hz]
    simp [Vwa]
   ·have:(c.Size !=0)=true:=by simpa using hz
    rw [if_neg hz,this,hit]
    simp only [cond_true,Option.bind_some]
    rw [wna (by simp;omega)]
    simp only [Option.bind_some]
    rw [wna (by simp;omega)]
    simp [Vwa]
  ·unfold argT
   rw [if_neg (by omega),if_neg (by omega),if_pos h1,h1]
   simp only [show ((3:Int)==1)=false from rfl,show ((3:Int)==2)=false from rfl,show ((3:Int)==3)=true from rfl,cond_true,cond_false]
   rw [wna (by simp;omega)]
   simp only [Option.bind_some]
   rw [wna (by simp;omega)]
   simp only [Option.bind_some]
   rw [wna (by simp;omega)]
   simp only [Option.bind_some]
   by_cases hz:c.Notify=1
   ·rw [if_pos hz,hz]
    simp [Vwa]
   ·have:(c.Notify !=1)=true:=by simpa using hz
    rw [if_neg hz,this,KRa ok.note]
    simp only [cond_true,Option.bind_some]
    rw [wna (by simp;omega)]
    simp only [Option.bind_some]
    rw [wna (by simp;omega)]
    simp [Vwa]
  ·unfold argT
   rw [if_neg (by omega),if_neg (by omega),if_neg (by omega),if_pos h1,h1]
   simp only [show ((5:Int)==1)=false from rfl,show ((5:Int)==2)=false from rfl,show ((5:Int)==3)=false from rfl,show ((5:Int)==5)=true from rfl,cond_true,cond_false,hit,Option.bind_some]
   rw [wna (by simp;omega)]
   simp only [Option.bind_some]
   rw [wna (by simp;omega)]
   simp only [Option.bind_some]
   cases c.Last with
   | true=>
    simp only [cond_true]
    rw [wna (by simp;omega)]
    simp [Vwa]
   | false=> simp [Vwa]
  ·unfold argT
   rw [if_neg (by simpa using h1),if_neg (by simpa using h2),if_neg (by simpa using h3),if_neg (by simpa using h5),h1,h2,h3,h5]
   simp [Vwa]
end Go.Proofs.YtjnmamghadpedaaGreatDoor
namespace Go.Proofs.YtjnmamghadpedaaGreatDoor
open Go.RowKit
set_option maxHeartbeats 1000000
def rlnC (c:UInt8):Bool:=c==13 || c==10
def digC (c:UInt8):Bool:=decide (48≤c) && decide (c≤57)
def smLn (l:List Str):Prop:=l.length≤1048576∧∀s∈l,s.length≤1048576
theorem zeb (s:Str) (hs:s.length≤1048576):zDa s [13,10]=some (s.any rlnC):=by
 rw [vYa s _ hs (by decide) (by decide) (by decide)]
 simp only [Option.some.injEq]
 congr 1
 funext c
 rw [Bool.eq_iff_iff]
 simp [rlnC]
theorem lt48 (c:UInt8):decide ((c.toNat:Int) < 48)= !decide ((48:UInt8)≤c):=by
 rw [←yKa 48 c (by decide),Bool.eq_iff_iff];simp
theorem gt57 (c:UInt8):decide ((57:Int) < (c.toNat:Int))= !decide (c≤(57:UInt8)):=by
 rw [←yLa 57 c (by decide),Bool.eq_iff_iff];simp
theorem Q3a (s:Str) (hs:s.length≤1048576):qQa s=some (s.all digC && s !=([]:Str)):=by
 unfold qQa
 rw [zHa s (fun _ c=> if !digC c then some false else none) (.inl ()) .inr,wHa,QSa]
 ·cases s.all digC <;> rfl
 ·unfold vQa;rw [kca];rfl
 ·intro i c hc
  have hi:=kia hc
  unfold vQa
  rw [kLa hc,z3a hc]
  simp only [cond_true,Option.bind_some,lt48,gt57,sc i (by omega)]
  unfold digC
  cases decide ((48:UInt8)≤c) <;> cases decide (c≤(57:UInt8)) <;> rfl
def num3 (a b c:UInt8):Nat:=((a.toNat - 48) * 10+(b.toNat - 48)) * 10+(c.toNat - 48)
theorem zfb {c:UInt8}:digC c=true↔48≤c.toNat∧c.toNat≤57:=by
 unfold digC
 rw [Bool.and_eq_true,decide_eq_true_eq,decide_eq_true_eq,UInt8.le_iff_toNat_le,UInt8.le_iff_toNat_le]
 exact Iff.rfl
theorem jQa {c:UInt8} (h:digC c=true):Lib.digitVal c=some (c.toNat - 48):=by
 unfold Lib.digitVal;rw [if_pos (zfb.1 h)]
theorem atoi_3 {a b c:UInt8} (ha:digC a=true) (hb:digC b=true) (hc:digC c=true):qla [a,b,c]=some ((num3 a b c:Int),false):=by
 have h1:=zfb.1 ha
 have n1:(a==45)=false:=by rw [beq_eq_false_iff_ne];intro e;subst e;simp at h1
 have n2:(a==43)=false:=by rw [beq_eq_false_iff_ne];intro e;subst e;simp at h1
 have e:Lib.atoi [a,b,c]=some (num3 a b c:Int):=by
  unfold Lib.atoi
  dsimp only
  rw [n1,n2]
  simp [Lib.decNat,Lib.decFrom,jQa ha,jQa hb,jQa hc,num3]
 unfold qla
 rw [if_pos (show ([a,b,c]:Str).length≤18 by simp),e]
def Qda (c:Int):Bool:=decide (200≤c) && decide (c≤599)
theorem Koa (c:Int):wGa c=some (Qda c):=by unfold wGa Qda;cases decide (200≤c) <;> rfl
def zgb (i:Nat) (s:Str):Option zra:=if 500 < s.length then some ⟨1,i⟩ else if s.any rlnC then some ⟨5,i⟩ else none
def Zxa (r:kDa):zra:=if !Qda r.Code then ⟨3, -1⟩ else if r.Lines.length < 1∨20 < r.Lines.length then ⟨2, -2⟩ else (zKa zgb 0 r.Lines).getD ⟨0,0⟩
theorem dec500 (s:Str):decide ((500:Int) < (s.length:Int))=decide (500 < s.length):=by generalize s.length=n;rw [Bool.eq_iff_iff];simp;omega
theorem KSa (r:kDa) (h:smLn r.Lines):vda r=some (Zxa r):=by
 obtain ⟨h1,h2⟩:=h
 unfold vda Zxa
 rw [zHa r.Lines zgb (.inl ()) .inr (by unfold q1a;rw [kca];rfl) (fun i s hs=> by
  have hi:=kia hs
  have hsl:=h2 s (List.mem_of_getElem? hs)
  unfold q1a zgb
  rw [kLa hs,z3a hs]
  simp only [cond_true,Option.bind_some,dec500,zeb s hsl,zAa,sc i (by omega)]
  by_cases h500:500 < s.length
  ·simp [h500]
  ·simp only [h500,decide_false,cond_false,if_false]
   cases s.any rlnC <;> rfl)]
 simp only [Option.bind_some,Koa,zAa,zTa,j8a]
 cases Qda r.Code with
 | false=> rfl
 | true=>
  simp only [Bool.not_true,cond_false,Bool.false_eq_true,if_false]
  by_cases ha:r.Lines.length < 1
  ·rw [if_pos (Or.inl ha),decide_eq_true (by omega)];rfl
  ·rw [decide_eq_false (by omega)]
   by_cases hb:20 < r.Lines.length
   ·rw [if_pos (Or.inr hb),decide_eq_true (by omega)];rfl
   ·rw [if_neg (by omega),decide_eq_false (by omega)];rfl
structure ROk (r:kDa):Prop where
 code:∃u:Nat,r.Code=u∧200≤u∧u≤599
 len:1≤r.Lines.length∧r.Lines.length≤20
 lines:∀s∈r.Lines,s.length≤500∧s.any rlnC=false
theorem qqb {r:kDa} (h:ROk r):Zxa r=⟨0,0⟩:=by
 obtain ⟨⟨u,hu,h1,h2⟩,hl,hx⟩:=h
 unfold Zxa
 have hc:Qda r.Code=true:=by unfold Qda;rw [hu];simp;omega
 rw [hc,if_neg (by simp),if_neg (by omega)]
 rw [vsa.2 (fun i s hs=> by
  obtain ⟨a,b⟩:=hx s (List.mem_of_getElem? hs)
  unfold zgb;rw [if_neg (by omega),b];rfl)]
 rfl
theorem Vxa (r:kDa) (h:smLn r.Lines):wUa r=some (if (Zxa r).Code≠0 then (0,Zxa r) else (iQuo r.Code 100,⟨0,0⟩)):=by
 unfold wUa
 rw [KSa r h]
 simp only [Option.bind_some,kda,zTa]
 by_cases hc:(Zxa r).Code=0
 ·have e:((Zxa r).Code !=0)=false:=by simp [hc]
  rw [e,if_neg (by simp [hc])];rfl
 ·have e:((Zxa r).Code !=0)=true:=by simpa using hc
  rw [e,if_pos hc];rfl
end Go.Proofs.YtjnmamghadpedaaGreatDoor
namespace Go.Proofs.YtjnmamghadpedaaGreatDoor
open Go.RowKit
set_option maxHeartbeats 1000000
def rdQ:Str→Option Nat
 | a::b::c::d::r=> if (d==45 || d==32) && (digC a && digC b && digC c) && !((a::b::c::d::r).any rlnC) && (decide (200≤num3 a b c) && decide (num3 a b c≤599)) then some (num3 a b c) else none
 | _=> none
theorem qrb {s:Str} {n:Nat} (h:rdQ s=some n):4≤s.length∧200≤n∧n≤599:=by
 unfold rdQ at h
 split at h
 ·split at h
  ·rename_i hc
   cases h
   simp only [Bool.and_eq_true,decide_eq_true_eq] at hc
   exact ⟨by simp,hc.2.1,hc.2.2⟩
  ·cases h
 ·cases h
theorem rdQ_at {s:Str} {n:Nat} (h:rdQ s=some n):∃d,s[3]? =some d∧idx s 3=some d∧(d=45∨d=32):=by
 unfold rdQ at h
 split at h
 ·rename_i a b c d r
  split at h
  ·rename_i hc
   simp only [Bool.and_eq_true,Bool.or_eq_true,beq_iff_eq] at hc
   exact ⟨d,rfl,rfl,hc.1.1.1⟩
  ·cases h
 ·cases h
theorem u8_or (d:UInt8) {γ:Type} (X Y:γ):(bif ((d.toNat:Int) !=45) then (bif ((d.toNat:Int) !=32) then X else Y) else Y)=if (d==45 || d==32) then Y else X:=by
 rw [KKa d 45 (by decide),KKa d 32 (by decide)]
 unfold bne
 cases d==45 <;> cases d==32 <;> rfl
theorem cut03 (a b c d:UInt8) (r:Str):cut (a::b::c::d::r) 0 3=some [a,b,c]:=by
 have:=K9a (l:=a::b::c::d::r) (b:=3) (by simp)
 exact this
theorem cut4 (s:Str) (h:4≤s.length):cut s 4 (s.length:Int)=some (s.drop 4):=jca (a:=4) h
theorem WPa (s:Str) (hs:s.length≤1048576):∃v,yIa s=some v∧v.2.2.2=(rdQ s).isSome∧∀n,rdQ s=some n→v=((n:Int),s.drop 4,(s[3]? ==some 32),true):=by
 match s,hs with
 | [],_=> exact ⟨_,rfl,rfl,fun n h=> by cases h⟩
 | [_],_=> exact ⟨_,rfl,rfl,fun n h=> by cases h⟩
 | [_,_],_=> exact ⟨_,rfl,rfl,fun n h=> by cases h⟩
 | [_,_,_],_=> exact ⟨_,rfl,rfl,fun n h=> by cases h⟩
 | a::b::c::d::r,hs=>
  have e1:decide (((a::b::c::d::r).length:Int) < 4)=false:=by simp;omega
  have e2:idx (a::b::c::d::r) 3=some d:=rfl
  have e3:qQa [a,b,c]=some (digC a && digC b && digC c):=by
   have h:=Q3a [a,b,c] (by simp)
   rw [h]
   show some ((digC a && (digC b && (digC c && true))) && true)=_
   rw [Bool.and_true,Bool.and_true,Bool.and_assoc]
  have e4:=zeb _ hs
  have e5:=cut4 (a::b::c::d::r) (by simp)
  unfold yIa
  rw [e1,e2,cut03,e4,e5]
  simp only [Option.bind_some,cond_false,e3,Koa]
  rw [u8_or]
  have hr:rdQ (a::b::c::d::r)=if (d==45 || d==32) && (digC a && digC b && digC c) && !((a::b::c::d::r).any rlnC) && (decide (200≤num3 a b c) && decide (num3 a b c≤599)) then some (num3 a b c) else none:=rfl
  rw [hr]
  cases h1:(d==45 || d==32) with
  | false=> exact ⟨_,rfl,rfl,fun n h=> by simp at h⟩
  | true=>
   cases h2:(digC a && digC b && digC c) with
   | false=> exact ⟨_,rfl,rfl,fun n h=> by simp at h⟩
   | true=>
    cases h3:(a::b::c::d::r).any rlnC with
    | true=> exact ⟨_,rfl,rfl,fun n h=> by simp at h⟩
    | false=>
     have h2' :=h2
     rw [Bool.and_eq_true,Bool.and_eq_true] at h2'
     simp only [Bool.not_true,Bool.not_false,Bool.true_and,if_true,cond_false,Option.bind_some]
     rw [atoi_3 h2'.1.1 h2'.1.2 h2'.2]
     simp only [Option.bind_some]
     have e6:Qda ((num3 a b c:Nat):Int)=(decide (200≤num3 a b c) && decide (num3 a b c≤599)):=by
      unfold Qda
      congr 1
      ·rw [Bool.eq_iff_iff];simp;omega
      ·rw [Bool.eq_iff_iff];simp;omega
     rw [e6]
     cases h4:(decide (200≤num3 a b c) && decide (num3 a b c≤599)) with
     | false=> exact ⟨_,rfl,rfl,fun n h=> by simp at h⟩
     | true=>
      refine ⟨_,rfl,rfl,fun n h=> ?_⟩
      simp only [if_true,Option.some.injEq] at h
      subst h
      rw [wWa d 32 (by decide)]
      simp
abbrev PR:=kDa × Int × zra
def parP:List Str→Nat→List Str→Int→Option PR
 | [],_,_,_=> none
 | s::r,i,acc,prev=>
  if i=20 then some (⟨0, []⟩,0,⟨2,i⟩)
  else match rdQ s with
   | none=> some (⟨0, []⟩,0,⟨11,i⟩)
   | some n=>
    if 504 < s.length then some (⟨0, []⟩,0,⟨1,i⟩)
    else if 0 < i∧(n:Int)≠prev then some (⟨0, []⟩,0,⟨5,i⟩)
    else if s[3]? =some 32 then some (⟨n,acc++ [s.drop 4]⟩,((i+1:Nat):Int),⟨0,0⟩)
    else parP r (i+1) (acc++ [s.drop 4]) n
def wZa (l:List Str):PR:=if 300 < l.length then (⟨0, []⟩,0,⟨2, -1⟩) else (parP l 0 [] 0).getD (⟨0, []⟩,0,⟨9, -2⟩)
theorem gt0 (i:Nat) (n:Nat) (prev:Int):(bif decide ((0:Int) < (i:Int)) then some ((n:Int) !=prev) else some false)=some (decide (0 < i∧(n:Int)≠prev)):=by
 by_cases h:0 < i
 ·rw [decide_eq_true (by omega:(0:Int) < (i:Int))]
  by_cases h2:(n:Int)=prev
  ·simp [h2]
  ·simp [h2,h]
 ·rw [decide_eq_false (by omega:¬(0:Int) < (i:Int))]
  simp [h]
theorem at32 (s:Str) (d:UInt8) (h:s[3]? =some d):(s[3]? ==some 32)=decide (s[3]? =some 32):=by
 rw [h,Bool.eq_iff_iff];simp
theorem eq20 (i:Nat):((i:Int)==20)=decide (i=20):=by rw [Bool.eq_iff_iff];simp;omega
def qsb (x:Str) (i:Nat) (acc:List Str) (prev:Int):Step (Int × List Str × Int) (Unit ⊕ PR):=
 if i=20 then .out (.inr (⟨0, []⟩,0,⟨2,i⟩))
 else match rdQ x with
 | none=> .out (.inr (⟨0, []⟩,0,⟨11,i⟩))
 | some n=>
  if 504 < x.length then .out (.inr (⟨0, []⟩,0,⟨1,i⟩))
  else if 0 < i∧(n:Int)≠prev then .out (.inr (⟨0, []⟩,0,⟨5,i⟩))
  else if x[3]? =some 32 then .out (.inr (⟨n,acc++ [x.drop 4]⟩,((i+1:Nat):Int),⟨0,0⟩))
  else .cont (((i+1:Nat):Int),acc++ [x.drop 4],(n:Int))
theorem z6b (l:List Str) {body:Int × List Str × Int→Option (Step (Int × List Str × Int) (Unit ⊕ PR))} (h0:∀acc prev,body ((l.length:Int),acc,prev)=some (.out (.inl ())))
  (h1:∀(i:Nat) x acc prev,l[i]? =some x→acc.length=i→body ((i:Int),acc,prev)=some (qsb x i acc prev)):iter body (0,([]:List Str),0)=some ((parP l 0 [] 0).elim (Sum.inl ()) Sum.inr):=by
 refine zUb l (fun i (s:List Str × Int)=> ((i:Int),s.1,s.2)) (fun i r s=> (parP r i s.1 s.2).elim (Sum.inl ()) Sum.inr) (fun i _ s=> s.1.length=i) ?_ ?_ (([]:List Str),(0:Int)) rfl rfl
 ·intro s _
  exact h0 _ _
 ·intro p x q s hp hi
  obtain ⟨acc,prev⟩:=s
  dsimp only at hi ⊢
  rw [h1 p.length x acc prev (by rw [hp];simp) hi]
  unfold qsb
  rw [parP]
  by_cases h20:p.length=20
  ·rw [if_pos h20,if_pos h20];left;rfl
  ·rw [if_neg h20,if_neg h20]
   cases hr:rdQ x with
   | none=> left;rfl
   | some n=>
    dsimp only
    by_cases h504:504 < x.length
    ·rw [if_pos h504,if_pos h504];left;rfl
    ·rw [if_neg h504,if_neg h504]
     by_cases h5:0 < p.length∧(n:Int)≠prev
     ·rw [if_pos h5,if_pos h5];left;rfl
     ·rw [if_neg h5,if_neg h5]
      by_cases h32:x[3]? =some 32
      ·rw [if_pos h32,if_pos h32];left;rfl
      ·rw [if_neg h32,if_neg h32]
       exact Or.inr ⟨(acc++ [x.drop 4],(n:Int)),rfl,rfl,by simp [hi]⟩
theorem Vya (l:List Str) (h:smLn l):wTa l=some (wZa l):=by
 unfold wTa wZa
 by_cases h300:300 < l.length
 ·rw [if_pos h300,decide_eq_true (by omega)];rfl
 ·rw [if_neg h300,decide_eq_false (by omega),z6b l]
  ·simp only [cond_false,Option.bind_some,zAa]
   cases parP l 0 [] 0 <;> rfl
  ·intro acc prev
   unfold wca
   dsimp only
   rw [kca];rfl
  ·intro i x acc prev hx hi
   have hle:=kia hx
   have hxs:=h.2 x (List.mem_of_getElem? hx)
   obtain ⟨v,hv,hv1,hv2⟩:=WPa x hxs
   unfold wca qsb
   dsimp only
   rw [kLa hx,z3a hx]
   simp only [cond_true,Option.bind_some,hv,hv1,eq20,zAa,zTa]
   by_cases h20:i=20
   ·rw [if_pos h20,decide_eq_true h20];rfl
   ·rw [if_neg h20,decide_eq_false h20]
    simp only [cond_false]
    cases hr:rdQ x with
    | none=> rfl
    | some n=>
     have hvn:=hv2 n hr
     subst hvn
     have hn:=qrb hr
     obtain ⟨d,hd,_,_⟩:=rdQ_at hr
     have e5:decide ((500:Int) < (((x.drop 4).length:Nat):Int))=decide (504 < x.length):=by
      rw [Bool.eq_iff_iff,List.length_drop,decide_eq_true_eq,decide_eq_true_eq];omega
     simp only [Option.isSome_some,Bool.not_true,cond_false,e5,gt0,Option.bind_some]
     by_cases h504:504 < x.length
     ·rw [decide_eq_true h504,if_pos h504];rfl
     ·rw [decide_eq_false h504,if_neg h504]
      simp only [cond_false]
      by_cases h5:0 < i∧(n:Int)≠prev
      ·rw [decide_eq_true h5,if_pos h5];rfl
      ·rw [decide_eq_false h5,if_neg h5]
       simp only [cond_false,Option.bind_some,bne_self_eq_false]
       rw [qia (by simp;omega)]
       simp only [Option.bind_some,at32 x d hd,sc i (by omega)]
       by_cases h32:x[3]? =some 32
       ·rw [decide_eq_true h32,if_pos h32];rfl
       ·rw [decide_eq_false h32,if_neg h32];rfl
end Go.Proofs.YtjnmamghadpedaaGreatDoor
namespace Go.Proofs.YtjnmamghadpedaaGreatDoor
open Go.RowKit
def fl:List UInt8→List UInt8→List Str × List UInt8
 | cur, []=> ([],cur)
 | cur, [c]=> ([],cur++ [c])
 | cur,c::d::r=> if c=13∧d=10 then (cur::(fl [] r).1,(fl [] r).2) else fl (cur++ [c]) (d::r)
theorem qtb (cur r:List UInt8):fl cur (13::10::r)=(cur::(fl [] r).1,(fl [] r).2):=by rw [fl,if_pos ⟨rfl,rfl⟩]
theorem WQa {c d:UInt8} (h:¬(c=13∧d=10)) (cur r:List UInt8):fl cur (c::d::r)=fl (cur++ [c]) (d::r):=by rw [fl,if_neg h]
theorem Q4a (c d:UInt8) (r:List UInt8):Lib.index (c::d::r) [13,10]=if c=13∧d=10 then 0 else if Lib.index (d::r) [13,10]= -1 then -1 else Lib.index (d::r) [13,10]+1:=by
 rw [Lib.index]
 by_cases h:c=13∧d=10
 ·obtain ⟨rfl,rfl⟩:=h;simp
 ·rw [if_neg h,if_neg]
  ·simp
  ·simp only [List.isPrefixOf,Bool.and_true,Bool.and_eq_true,beq_iff_eq]
   rintro ⟨rfl,rfl⟩;exact h ⟨rfl,rfl⟩
theorem qub (l:List UInt8):∀cur,Lib.index l [13,10]= -1→fl cur l=([],cur++l):=by
 induction l with
 | nil=> intro cur _;simp [fl]
 | cons c r ih=>
  intro cur h
  match r,ih with
  | [],_=> simp [fl]
  | d::r,ih=>
   rw [Q4a] at h
   have hg:=Lib.index_ge (d::r) [13,10]
   split at h
   ·cases h
   ·rename_i hn
    rw [WQa hn,ih]
    ·simp
    ·split at h
     ·assumption
     ·omega
theorem JJa (l:List UInt8):∀(cur:List UInt8) (k:Nat),Lib.index l [13,10]=(k:Int)→k+2≤l.length∧fl cur l=((cur++l.take k)::(fl [] (l.drop (k+2))).1,(fl [] (l.drop (k+2))).2):=by
 induction l with
 | nil=> intro cur k h;simp [Lib.index] at h
 | cons c r ih=>
  intro cur k h
  match r,ih with
  | [],_=> simp [Lib.index] at h
  | d::r,ih=>
   rw [Q4a] at h
   have hg:=Lib.index_ge (d::r) [13,10]
   split at h
   ·rename_i hn
    obtain ⟨rfl,rfl⟩:=hn
    obtain rfl:k=0:=by omega
    rw [qtb];simp
   ·rename_i hn
    split at h
    ·omega
    ·obtain ⟨j,rfl⟩:∃j,k=j+1:=⟨k - 1,by omega⟩
     obtain ⟨h1,h2⟩:=ih (cur++ [c]) j (by omega)
     rw [WQa hn,h2]
     refine ⟨by simp at h1 ⊢;omega, ?_⟩
     simp
theorem qvb (l:List UInt8) (cur:List UInt8):((fl cur l).1.flatMap fun x=> x++ [13,10])++(fl cur l).2=cur++l:=by
 fun_induction fl cur l with
 | case1 cur=> simp
 | case2 cur c=> simp
 | case3 cur c d r h ih=> obtain ⟨rfl,rfl⟩:=h;simpa using ih
 | case4 cur c d r h ih=> simpa using ih
theorem fl_size (l:List UInt8) (cur:List UInt8):2 * (fl cur l).1.length+(fl cur l).2.length≤cur.length+l.length:=by
 fun_induction fl cur l with
 | case1 cur=> simp
 | case2 cur c=> simp
 | case3 cur c d r h ih=> simp at ih ⊢;omega
 | case4 cur c d r h ih=> simp at ih ⊢;omega
end Go.Proofs.YtjnmamghadpedaaGreatDoor
namespace Go.Proofs.YtjnmamghadpedaaGreatDoor
open Go.RowKit
end Go.Proofs.YtjnmamghadpedaaGreatDoor
namespace Go.Proofs.YtjnmamghadpedaaGreatDoor
open Go.RowKit
def dot0:Str→Bool
 | c::_=> c==46
 | []=> false
def V5a (l:Str):Str:=if dot0 l then 46::l else l
def jRa (ls:List Str):Str:=ls.flatMap fun x=> V5a x++ [13,10]
theorem WRa (l:Str):kPa l [46]=some (dot0 l):=by
 unfold kPa
 cases l with
 | nil=> rfl
 | cons c r=>
  have:cut (c::r) 0 ((([46]:List UInt8).length:Nat):Int)=some [c]:=by
   rw [K9a (by simp)];rfl
  simp only [this,qJa,Option.bind_some]
  simp [dot0]
  rw [Bool.cond_eq_ite]
  simp
  omega
theorem Zya (l:Str) (hl:l.length≤9223372036854775807):kAa l [13,10]=some (decide ([13,10] <:+l)):=by
 unfold kAa
 by_cases h:2≤l.length
 ·have e:w64 ((l.length:Int) - ((([13,10]:List UInt8).length:Nat):Int))=((l.length - 2:Nat):Int):=w64_ns _ _ h hl
  rw [e,jca (by omega)]
  have:decide (((([13,10]:List UInt8).length:Nat):Int)≤(l.length:Int))=true:=by simp;omega
  simp only [this,cond_true,Option.bind_some,qJa]
  congr 1
  rw [Bool.eq_iff_iff,decide_eq_true_iff,List.suffix_iff_eq_drop,beq_iff_eq]
  exact eq_comm
 ·have:decide (((([13,10]:List UInt8).length:Nat):Int)≤(l.length:Int))=false:=by simp;omega
  simp only [this,cond_false,Option.bind_some]
  congr 1
  symm
  simp only [decide_eq_false_iff_not]
  intro hs
  have:=hs.length_le
  simp at this
  omega
theorem V6a (l cur:List UInt8):(fl cur l).2= []↔(l= []∧cur= [])∨ [13,10] <:+l:=by
 fun_induction fl cur l with
 | case1 cur=> simp
 | case2 cur c=>
  simp
  intro h
  have:=h.length_le
  simp at this
 | case3 cur c d r h ih=>
  obtain ⟨rfl,rfl⟩:=h
  simp only [ih,List.suffix_cons_iff]
  simp
 | case4 cur c d r h ih=>
  rw [ih,List.suffix_cons_iff (a:=c)]
  simp
  intro h1 h2 _
  exact absurd ⟨h1.symm,h2.symm⟩ h
theorem V7a (x:Str):(V5a x).length≤x.length+1∧x.length≤(V5a x).length:=by unfold V5a;split <;> simp
theorem zhb (ls:List Str):(ls.flatMap fun x=> x++ [13,10]).length≥2 * ls.length:=by
 induction ls with
 | nil=> simp
 | cons x r ih=> simp at ih ⊢;omega
theorem Q5a (ls:List Str):(jRa ls).length≤(ls.flatMap fun x=> x++ [13,10]).length+ls.length:=by
 induction ls with
 | nil=> simp [jRa]
 | cons x r ih=>
  have:=(V7a x).1
  unfold jRa at ih ⊢
  simp at ih ⊢
  omega
theorem z7b (a:List UInt8) (ha:a.length≤12000) (n:Nat):∀(at_:Nat) (out:List UInt8),at_≤a.length→a.length - at_=n→out.length≤2 * at_→
  iter (kJa a) ((at_:Int),out)=some (out++jRa (fl [] (a.drop at_)).1):=by
 induction n using Nat.strongRecOn with
 | _ n ih=>
  intro at_ out h1 h2 h3
  have hg:=Lib.index_ge (a.drop at_) [13,10]
  by_cases hi:Lib.index (a.drop at_) [13,10]= -1
  ·have hb:kJa a ((at_:Int),out)=some (.out out):=by
    unfold kJa
    simp only [jca h1,Option.bind_some,qKa]
    rw [if_pos (by simp;omega)]
    simp [hi]
   rw [zIa hb]
   simp [qub _ [] hi,jRa]
  ·obtain ⟨k,hk⟩:∃k:Nat,Lib.index (a.drop at_) [13,10]=(k:Int):=⟨(Lib.index (a.drop at_) [13,10]).toNat,by omega⟩
   obtain ⟨hk2,hf⟩:=JJa _ [] k hk
   simp at hk2
   have hlen:(((a.drop at_).take k).length)=k:=by simp;omega
   have hd:=V7a ((a.drop at_).take k)
   have hb:kJa a ((at_:Int),out)=some (.cont (((at_+k+2:Nat):Int),out++(V5a ((a.drop at_).take k)++ [13,10]))):=by
    unfold kJa
    simp only [jca h1,Option.bind_some,qKa]
    rw [if_pos (by simp;omega)]
    simp (disch:=omega) only [hk,VXa,w64_nl,J5a,Option.bind_some,show ¬((k:Int) < 0) by omega,decide_false,cond_false]
    rw [show at_+k - at_=k by omega,show at_+(k+2)=at_+k+2 by omega]
    rw [WRa]
    unfold V5a
    cases dot0 ((a.drop at_).take k) with
    | false=>
     simp only [Option.bind_some,cond_false]
     rw [qia (by omega)]
     simp only [Option.bind_some]
     rw [qia (by simp;omega)]
     simp
    | true=>
     simp only [Option.bind_some,cond_true]
     rw [qia (by simp;omega)]
     simp only [Option.bind_some]
     rw [qia (by simp;omega)]
     simp only [Option.bind_some]
     rw [qia (by simp;omega)]
     simp
   rw [zXa hb,ih (a.length - (at_+k+2)) (by omega) (at_+k+2) _ (by omega) rfl (by simp;omega),hf]
   simp [jRa,Nat.add_assoc]
theorem Vza (a:List UInt8):vra a=some (if 12000 < a.length then ([],⟨1, -1⟩) else if (fl [] a).2≠ [] then ([],⟨5, -2⟩) else (jRa (fl [] a).1++ [46,13,10],⟨0,0⟩)):=by
 unfold vra
 by_cases h:12000 < a.length
 ·have:decide ((12000:Int) < (a.length:Int))=true:=by simp;omega
  simp only [this,cond_true,zpa,Option.bind_some,if_pos h]
 ·have:decide ((12000:Int) < (a.length:Int))=false:=by simp;omega
  simp only [this,cond_false,if_neg h]
  have hs:=fl_size a []
  have e:((0:Int),([]:List UInt8))=(((0:Nat):Int), []):=rfl
  have hl:=z7b a (by omega) _ 0 [] (by omega) rfl (by simp)
  rw [Zya _ (by omega),e,hl]
  have hj:((bif decide ((0:Int) < (a.length:Int)) then (some (decide ([13,10] <:+a))).bind fun v6=> some (!v6) else some false):Option Bool)=some (decide ((fl [] a).2≠ [])):=by
   have:=V6a a []
   simp at this
   by_cases h0:a= []
   ·simp [h0,fl]
   ·have h1:0 < a.length:=by cases a with
     | nil=> exact absurd rfl h0
     | cons c r=> simp
    simp [h1,this,h0]
  rw [hj]
  simp only [Option.bind_some]
  by_cases hr:(fl [] a).2= []
  ·have:=Q5a (fl [] a).1
   have hjn:=qvb a []
   simp [hr] at hjn
   have hjl:=congrArg List.length hjn
   simp at hs
   rw [hr] at hs
   simp [hr,zUa]
   rw [qia]
   ·simp
   ·simp at hs ⊢
    simp at hjl this
    omega
  ·simp [hr,zpa]
end Go.Proofs.YtjnmamghadpedaaGreatDoor
namespace Go.Proofs.YtjnmamghadpedaaGreatDoor
open Go.RowKit
def zEa (ls:List Str):Str:=ls.flatMap fun x=> x++ [13,10]
theorem KTa (x:Str) (r:List Str):zEa (x::r)=x++13::10::zEa r:=by simp [zEa]
theorem qwb (x:Str) (r:List Str):(zEa (x::r)).length=x.length+2+(zEa r).length:=by simp [KTa];omega
theorem WSa (a:List UInt8):zEa (fl [] a).1++(fl [] a).2=a:=qvb a []
theorem fl_joinN (a:List UInt8):(zEa (fl [] a).1).length+(fl [] a).2.length=a.length:=by
 have:=congrArg List.length (WSa a)
 simpa only [List.length_append] using this
end Go.Proofs.YtjnmamghadpedaaGreatDoor
namespace Go.Proofs.YtjnmamghadpedaaGreatDoor
open Go.RowKit
set_option maxHeartbeats 1000000
theorem recF_inv {l:List zca} (h:(recF l).Code=0):(∀r∈l,vTa r.Address=true∧jna r.Notify=true)∧(l.map (·.Address)).Nodup:=by
 have hz:zKa (recQ l) 0 l=none:=by
  unfold recF at h
  cases hf:zKa (recQ l) 0 l with
  | none=> rfl
  | some f=>
   exfalso
   rw [hf] at h
   obtain ⟨i,x,hx,hq⟩:=y4a hf
   unfold recQ at hq
   split at hq
   ·cases hq;simp at h
   ·split at hq
    ·cases hq;simp at h
    ·split at hq
     ·cases hq;simp at h
     ·cases hq
 rw [vsa] at hz
 have key:∀(i:Nat) r,l[i]? =some r→vTa r.Address=true∧jna r.Notify=true∧(l.take i).any (fun x=> x.Address==r.Address)=false:=by
  intro i r hr
  have:=hz i r hr
  rw [Nat.zero_add] at this
  unfold recQ at this
  cases h1:vTa r.Address with
  | false=> rw [h1] at this;simp at this
  | true=>
   cases h2:jna r.Notify with
   | false=> rw [h1,h2] at this;simp at this
   | true=>
    cases h3:(l.take i).any (fun x=> x.Address==r.Address) with
    | true=> rw [h1,h2,h3] at this;simp at this
    | false=> exact ⟨rfl,rfl,rfl⟩
 refine ⟨fun r hr=> ?_, ?_⟩
 ·obtain ⟨i,hi⟩:=List.getElem?_of_mem hr
  exact ⟨(key i r hi).1,(key i r hi).2.1⟩
 ·rw [List.Nodup,List.pairwise_iff_getElem]
  intro i j hi hj hij
  simp only [List.length_map] at hi hj
  simp only [List.getElem_map]
  have h3:=(key j l[j] (List.getElem?_eq_getElem hj)).2.2
  rw [List.any_eq_false] at h3
  have:=h3 l[i] (List.mem_of_getElem? (i:=i) (by rw [List.getElem?_take_of_lt hij];exact List.getElem?_eq_getElem hi))
  simpa using this
end Go.Proofs.YtjnmamghadpedaaGreatDoor
namespace Go.Proofs.YtjnmamghadpedaaGreatDoor
open Go.RowKit
set_option maxHeartbeats 1000000
abbrev Talk:=zZa
theorem msgF_ok {m:zqa} (h:(msgF m).Code=0):(∀f∈m.Fields,jOa f=0)∧m.Fields.length≤60∧(zoa m).length≤12000:=by
 have hh:=Zaa _ (Yza h)
 refine ⟨hh.2.2,by omega, ?_⟩
 unfold msgF at h
 rw [if_neg (by simp [Yza h])] at h
 split at h
 ·exact absurd h (by decide)
 ·omega
theorem z8b {m:zVa} (h:(y7a m).Code=0):(envF m.Envelope).Code=0∧(msgF m.Message).Code=0:=QZa h
theorem rec_inv' {l:List zca} (h:(recF l).Code=0):∀r∈l,vTa r.Address=true∧jna r.Notify=true:=(recF_inv h).1
def rawP (m:zqa):Bool:= !decide ([13,10] <:+zoa m)
def qxb:zta:=⟨8, [], [],0,0,false⟩
def dataC:zta:=⟨4, [], [],0,0,false⟩
def qyb (n:Str):zta:=⟨1,n, [],0,0,false⟩
def z9b (f:Str) (n:Nat):zta:=⟨2, [],f,n,0,false⟩
def rcptC (r:zca):zta:=⟨3, [],r.Address,0,r.Notify,false⟩
def zib (n:Nat):zta:=⟨5, [], [],n,0,true⟩
theorem qzb:KQa qxb:=⟨by decide,by decide,by decide,fun h=> h.elim (fun h=> absurd h (by decide)) (fun h=> absurd h.1 (by decide)),by decide,by decide⟩
theorem qAb:KQa dataC:=⟨by decide,by decide,by decide,fun h=> h.elim (fun h=> absurd h (by decide)) (fun h=> absurd h.1 (by decide)),by decide,by decide⟩
theorem zjb {n:Str} (h:yba n=true):KQa (qyb n):=⟨⟨Int.le_refl 1,show (1:Int)≤8 by decide⟩,rfl,fun _=> h,fun h=> h.elim (fun h=> absurd h (show ¬(1:Int)=3 by decide)) (fun h=> absurd h.1 (show ¬(1:Int)=2 by decide)),⟨Int.le_refl 0,show (0:Int)≤1000000 by decide⟩,⟨Int.le_refl 0,show (0:Int)≤7 by decide⟩⟩
theorem qBb {f:Str} {n:Nat} (h:f= []∨vTa f=true) (hn:n≤1000000):KQa (z9b f n):=
 ⟨⟨show (1:Int)≤2 by decide,show (2:Int)≤8 by decide⟩,rfl,fun h=> absurd h (show ¬(2:Int)=1 by decide),fun hv=> h.elim (fun h0=> hv.elim (fun hv=> absurd hv (show ¬(2:Int)=3 by decide)) fun hv=> absurd h0 hv.2) id,⟨show (0:Int)≤(n:Int) by omega,show (n:Int)≤1000000 by omega⟩,⟨Int.le_refl 0,show (0:Int)≤7 by decide⟩⟩
theorem qCb {r:zca} (h:vTa r.Address=true∧jna r.Notify=true):KQa (rcptC r):=by
 have h2:=h.2
 unfold jna at h2
 simp only [Bool.and_eq_true,decide_eq_true_eq] at h2
 exact ⟨⟨show (1:Int)≤3 by decide,show (3:Int)≤8 by decide⟩,rfl,fun h=> absurd h (show ¬(3:Int)=1 by decide),fun _=> h.1,⟨Int.le_refl 0,show (0:Int)≤1000000 by decide⟩,h2⟩
theorem WTa {n:Nat} (hn:n≤1000000):KQa (zib n):=
 ⟨⟨show (1:Int)≤5 by decide,show (5:Int)≤8 by decide⟩,rfl,fun h=> absurd h (show ¬(5:Int)=1 by decide),fun h=> h.elim (fun h=> absurd h (show ¬(5:Int)=3 by decide)) (fun h=> absurd h.1 (show ¬(5:Int)=2 by decide)),⟨show (0:Int)≤(n:Int) by omega,show (n:Int)≤1000000 by omega⟩,⟨Int.le_refl 0,show (0:Int)≤7 by decide⟩⟩
theorem cmd_zero {c:zta} (ok:KQa c):cmdF c=⟨0,0⟩:=by
 have h1:(decide (c.Verb < 1) || decide (8 < c.Verb))=false:=by
  have:=ok.verb
  rw [decide_eq_false (by omega),decide_eq_false (by omega)];rfl
 have h3:(c.Verb==1 && !yba c.Name)=false:=by
  by_cases h:c.Verb=1
  ·rw [ok.name h];simp
  ·rw [beq_eq_false_iff_ne.2 h];rfl
 have h4:((c.Verb==3 || (c.Verb==2 && c.Address !=([]:Str))) && !vTa c.Address)=false:=by
  by_cases h:c.Verb=3∨(c.Verb=2∧c.Address≠ [])
  ·rw [ok.addr h];simp
  ·have h5:¬c.Verb=3:=fun e=> h (.inl e)
   rw [beq_eq_false_iff_ne.2 h5]
   by_cases h2:c.Verb=2
   ·have:c.Address= []:=Classical.byContradiction fun e=> h (.inr ⟨h2,e⟩)
    rw [this];simp
   ·rw [beq_eq_false_iff_ne.2 h2];rfl
 have h5:(decide (c.Size < 0) || decide (1000000 < c.Size))=false:=by
  have:=ok.size
  rw [decide_eq_false (by omega),decide_eq_false (by omega)];rfl
 have h6:jna c.Notify=true:=by
  have:=ok.note
  unfold jna
  rw [decide_eq_true this.1,decide_eq_true this.2];rfl
 unfold cmdF
 rw [h1,ok.used,h3,h4,h5,h6]
 rfl
theorem dec7 {n:Int} (h:0≤n∧n≤1000000):(Lib.decDigits n.toNat).length≤7:=WEa 6 n.toNat (by omega)
theorem zkb {c:zta} (ok:KQa c):(cmdT c).length≤400:=by
 have hwl:=(zdb ok.verb).2
 have hal:=Q2a ok
 have hd:=dec7 ok.size
 have hc:=YBa ok.note
 have hn:c.Verb=1→c.Name.length≤60:=fun h=> (QTa (ok.name h)).2
 unfold cmdT Vwa argT
 by_cases h1:c.Verb=1
 ·have:=hn h1
  rw [if_pos h1];simp;omega
 rw [if_neg h1]
 by_cases h2:c.Verb=2
 ·rw [if_pos h2]
  by_cases hs:c.Size=0
  ·rw [if_pos hs];simp;omega
  ·rw [if_neg hs];simp;omega
 rw [if_neg h2]
 by_cases h3:c.Verb=3
 ·rw [if_pos h3]
  by_cases hs:c.Notify=1
  ·rw [if_pos hs];simp;omega
  ·rw [if_neg hs];simp;omega
 rw [if_neg h3]
 by_cases h5:c.Verb=5
 ·rw [if_pos h5]
  cases c.Last <;> simp <;> omega
 ·rw [if_neg h5];simp;omega
def ZOa (out:List UInt8) (c:zta):List UInt8:=out++cmdT c++ [13,10]
def ses (t:Talk) (b:List UInt8) (r:Bool):zda:=⟨t.C,b,r,t.Out⟩
theorem qDb {c:zta} (ok:KQa c) (hn:c.Name.length≤1048576):JIa c:=by
 have hal:=Q2a ok
 exact ⟨hn,by omega⟩
theorem KUa (t:Talk) (b:List UInt8) (r:Bool) (c:zta) (ok:KQa c) (hn:c.Name.length≤1048576) (ho:t.Out.length≤1000000000000):zsa (ses t b r) c=some (ses ⟨t.C,ZOa t.Out c⟩ b r):=by
 have hl:=zkb ok
 unfold zsa ses
 rw [Qma c (qDb ok hn),cmd_zero ok]
 simp only [Option.bind_some,bne_self_eq_false,cond_false]
 rw [qia (by omega)]
 simp only [Option.bind_some]
 rw [qia (by simp;omega)]
 rfl
structure Good (c:zla):Prop where
 name:yba c.Name=true
 mail:(y7a c.Mail).Code=0
structure GoodM (m:zVa):Prop where
 frm:m.Envelope.From= []∨vTa m.Envelope.From=true
 many:1≤m.Envelope.To.length∧m.Envelope.To.length≤60
 tos:∀r∈m.Envelope.To,vTa r.Address=true∧jna r.Notify=true
 codes:∀f∈m.Message.Fields,jOa f=0
 many60:m.Message.Fields.length≤60
 big:(zoa m.Message).length≤12000
 body:m.Message.Body.length≤12000
theorem kCa {m:zVa} (h:(y7a m).Code=0):GoodM m:=by
 obtain ⟨he,hm⟩:=z8b h
 obtain ⟨m1,m2,m3⟩:=msgF_ok hm
 have h' :=he
 unfold envF at h'
 split at h'
 ·exact absurd h' (by decide)
 rename_i hfr
 split at h'
 ·exact absurd h' (by decide)
 rename_i hto
 split at h'
 ·exact absurd h' (by decide)
 simp only [Bool.or_eq_true,decide_eq_true_eq] at hto
 refine ⟨?_,by omega,rec_inv' h',m1,m2,m3, ?_⟩
 ·by_cases h0:m.Envelope.From= []
  ·exact .inl h0
  ·right
   unfold fromB at hfr
   have:(m.Envelope.From !=([]:Str))=true:=by simpa using h0
   rw [this] at hfr
   simpa using hfr
 ·unfold zoa at m3
  simp only [List.length_append] at m3
  omega
def askP (t:Talk) (k:Nat):Talk:=
 if k=1 then ⟨t.C,ZOa t.Out (qyb t.C.Name)⟩ else if k=2 then ⟨t.C,ZOa t.Out (z9b t.C.Mail.Envelope.From (zoa t.C.Mail.Message).length)⟩ else
 match t.C.Mail.Envelope.To[k - 3]? with
 | some r=> ⟨t.C,ZOa t.Out (rcptC r)⟩
 | none=> if rawP t.C.Mail.Message=true then ⟨{t.C with Whole:=true},ZOa t.Out (zib (zoa t.C.Mail.Message).length)++zoa t.C.Mail.Message⟩ else ⟨t.C,ZOa t.Out dataC⟩
theorem ask_C (t:Talk) (k:Nat):(askP t k).C={t.C with Whole:=(askP t k).C.Whole}:=by
 unfold askP
 split
 ·rfl
 ·split
  ·rfl
  ·split
   ·rfl
   ·split <;> rfl
theorem w0a {o:List UInt8} {c:zta} (ok:KQa c):(ZOa o c).length≤o.length+402:=by
 have:=zkb ok
 unfold ZOa
 simp;omega
theorem JKa {t:Talk} (g:Good t.C) (k:Nat):(askP t k).Out.length≤t.Out.length+12402:=by
 have gm:=kCa g.mail
 have hb:=gm.big
 unfold askP
 split
 ·have:=w0a (o:=t.Out) (zjb g.name)
  dsimp only;omega
 ·split
  ·have:=w0a (o:=t.Out) (qBb (n:=(zoa t.C.Mail.Message).length) gm.frm (by omega))
   dsimp only;omega
  ·split
   ·rename_i r hr
    have:=w0a (o:=t.Out) (qCb (gm.tos r (List.mem_of_getElem? hr)))
    dsimp only;omega
   ·split
    ·have:=w0a (o:=t.Out) (WTa (n:=(zoa t.C.Mail.Message).length) (by omega))
     simp only [List.length_append];omega
    ·have:=w0a (o:=t.Out) qAb
     dsimp only;omega
theorem cmd_eq (t:Talk) (g:Good t.C) (ho:t.Out.length≤100000000000) (k:Nat) (h1:1≤k) (h2:k≤t.C.Mail.Envelope.To.length+3):
  zya (ses t (zoa t.C.Mail.Message) (rawP t.C.Mail.Message)) (k:Int)=some (ses (askP t k) (zoa t.C.Mail.Message) (rawP t.C.Mail.Message)):=by
 have gm:=kCa g.mail
 have hb:=gm.big
 have hm:=gm.many
 have hn:=QTa g.name
 unfold zya askP
 by_cases k1:k=1
 ·subst k1
  have hs:=KUa t (zoa t.C.Mail.Message) (rawP t.C.Mail.Message) _ (zjb g.name) (by show t.C.Name.length≤_;omega) (by omega)
  rw [if_pos rfl]
  show ((zsa (ses t (zoa t.C.Mail.Message) (rawP t.C.Mail.Message)) (qyb t.C.Name)).bind fun v=> some v)=_
  rw [hs]
  rfl
 by_cases k2:k=2
 ·subst k2
  have hs:=KUa t (zoa t.C.Mail.Message) (rawP t.C.Mail.Message) _ (qBb (n:=(zoa t.C.Mail.Message).length) gm.frm (by omega)) (by show ([]:Str).length≤_;simp) (by omega)
  rw [if_neg (by decide),if_pos rfl]
  show ((zsa (ses t (zoa t.C.Mail.Message) (rawP t.C.Mail.Message)) (z9b t.C.Mail.Envelope.From (zoa t.C.Mail.Message).length)).bind fun v=> some v)=_
  rw [hs]
  rfl
 have e1:((k:Int)==1)=false:=by rw [beq_eq_false_iff_ne];omega
 have e2:((k:Int)==2)=false:=by rw [beq_eq_false_iff_ne];omega
 have ek:w64 ((k:Int) - 3)=((k - 3:Nat):Int):=by rw [kUa (by omega) (by omega)];omega
 have en:w64 ((t.C.Mail.Envelope.To.length:Int)+3)=((t.C.Mail.Envelope.To.length+3:Nat):Int):=by rw [kUa (by omega) (by omega)];omega
 rw [e1,e2,if_neg k1,if_neg k2]
 unfold z0a
 simp only [cond_false,Option.bind_some]
 show (bif decide ((k:Int) < w64 ((t.C.Mail.Envelope.To.length:Int)+3)) then (idx t.C.Mail.Envelope.To (w64 ((k:Int) - 3))).bind fun v10=> (zsa (ses t (zoa t.C.Mail.Message) (rawP t.C.Mail.Message)) (rcptC v10)).bind fun v12=> some v12 else _)=_
 rw [en,ek,jLa]
 by_cases hk:k < t.C.Mail.Envelope.To.length+3
 ·rw [decide_eq_true (by omega),List.getElem?_eq_getElem (by omega)]
  have hr:=gm.tos _ (List.getElem_mem (show k - 3 < t.C.Mail.Envelope.To.length by omega))
  simp only [cond_true,Option.bind_some,KUa t _ _ _ (qCb hr) (by show ([]:Str).length≤_;simp) (by omega)]
 ·rw [decide_eq_false (by omega),List.getElem?_eq_none (by omega)]
  dsimp only [cond_false]
  cases hr:rawP t.C.Mail.Message with
  | true=>
   have hs:=KUa t (zoa t.C.Mail.Message) true _ (WTa (n:=(zoa t.C.Mail.Message).length) (by omega)) (by show ([]:Str).length≤_;simp) (by omega)
   have hl:=w0a (o:=t.Out) (WTa (n:=(zoa t.C.Mail.Message).length) (by omega))
   rw [if_pos rfl]
   show ((zsa (ses t (zoa t.C.Mail.Message) true) (zib (zoa t.C.Mail.Message).length)).bind _)=_
   rw [hs]
   simp only [Option.bind_some]
   unfold ses
   dsimp only
   rw [qia (by omega)]
   rfl
  | false=>
   rw [if_neg (by decide)]
   show ((zsa (ses t (zoa t.C.Mail.Message) false) dataC).bind fun v=> some v)=_
   rw [KUa t _ _ _ qAb (by show ([]:Str).length≤_;simp) (by omega)]
   rfl
end Go.Proofs.YtjnmamghadpedaaGreatDoor
namespace Go.Proofs.YtjnmamghadpedaaGreatDoor
open Go.RowKit
set_option maxHeartbeats 1000000
set_option maxRecDepth 20000
def Zja:Nat→Nat→Talk→Talk
 | 0,_,t=> t
 | m+1,k,t=> Zja m (k+1) (askP t k)
theorem zlb {t:Talk} (g:Good t.C) (k:Nat):Good (askP t k).C:=by rw [ask_C];exact ⟨g.name,g.mail⟩
theorem Qva (t:Talk) (k:Nat):(askP t k).C.Mail=t.C.Mail:=by rw [ask_C]
theorem asks_C:∀(m k:Nat) (t:Talk),(Zja m k t).C={t.C with Whole:=(Zja m k t).C.Whole}
 | 0,_,_=> rfl
 | m+1,k,t=> by
  have h:=asks_C m (k+1) (askP t k)
  have h2:=ask_C t k
  show (Zja m (k+1) (askP t k)).C=_
  rw [h,h2]
  rfl
def bnd:Nat→Nat
 | 0=> 0
 | m+1=> bnd m+12402
theorem WUa (m:Nat):bnd (m+1)=bnd m+12402:=rfl
theorem bnd_le:∀m d:Nat,bnd m≤bnd (m+d)
 | m,0=> Nat.le_refl _
 | m,d+1=> by have:=bnd_le m d;have h:=WUa (m+d);rw [←Nat.add_assoc];omega
theorem bnd_64 {m:Nat} (h:m≤64):bnd m≤800000:=by
 have h1:=bnd_le m (64 - m)
 rw [show m+(64 - m)=64 by omega] at h1
 have h2:bnd 64≤800000:=by decide
 omega
theorem zmb:∀(m k:Nat) (t:Talk),Good t.C→(Zja m k t).Out.length≤t.Out.length+bnd m
 | 0,_,t,_=> by show t.Out.length≤_;omega
 | m+1,k,t,g=> by
  have h:=zmb m (k+1) (askP t k) (zlb g k)
  have h2:=JKa g k
  have h3:=WUa m
  show (Zja m (k+1) (askP t k)).Out.length≤_
  omega
theorem Q6a (j:Int × Bool):∀(m k:Nat) (t:Talk),Good t.C→t.Out.length+bnd m≤95000000000→1≤k→k+m=t.C.Mail.Envelope.To.length+4→j.1=((t.C.Mail.Envelope.To.length+3:Nat):Int)→
  iter (zLa j) ((k:Int),ses t (zoa t.C.Mail.Message) (rawP t.C.Mail.Message))=some (ses (Zja m k t) (zoa t.C.Mail.Message) (rawP t.C.Mail.Message))
 | 0,k,t,g,ho,h1,hk,hj=> by
  refine zIa ?_
  unfold zLa
  dsimp only
  rw [hj,decide_eq_false (by omega)]
  rfl
 | m+1,k,t,g,ho,h1,hk,hj=> by
  have hm:=(kCa g.mail).many
  have hstep:zLa j ((k:Int),ses t (zoa t.C.Mail.Message) (rawP t.C.Mail.Message))=some (.cont (((k+1:Nat):Int),ses (askP t k) (zoa t.C.Mail.Message) (rawP t.C.Mail.Message))):=by
   unfold zLa
   dsimp only
   rw [hj,decide_eq_true (by omega),cond_true,cmd_eq t g (by omega) k h1 (by omega)]
   simp only [Option.bind_some]
   rw [show w64 ((k:Int)+1)=((k+1:Nat):Int) by rw [kUa (by omega) (by omega)];omega]
  rw [zXa hstep]
  have hl:=JKa g k
  have h3:=WUa m
  have:=Q6a j m (k+1) (askP t k) (zlb g k) (by omega) (by omega) (by rw [Qva];omega) (by rw [Qva];exact hj)
  rw [Qva] at this
  exact this
def setE (t:Talk) (e:Int):Talk:=⟨{t.C with Expected:=e},t.Out⟩
def many (t:Talk):Nat:=t.C.Mail.Envelope.To.length
def onP1 (t:Talk) (e:Nat):Talk:=if t.C.Pipelined=false∨e=0 then askP (setE t ((e+1:Nat):Int)) (e+1) else if e=1 then Zja (many t+2) 2 (setE t ((e+1:Nat):Int)) else setE t ((e+1:Nat):Int)
def qAa (t:Talk) (e:Nat):Talk:=if e+1=many t+3∧rawP t.C.Mail.Message=true then setE (onP1 t e) ((e+2:Nat):Int) else onP1 t e
theorem on1_C (t:Talk) (e:Nat):(onP1 t e).C={t.C with Expected:=((e+1:Nat):Int),Whole:=(onP1 t e).C.Whole}:=by
 unfold onP1
 split
 ·rw [ask_C];rfl
 ·split
  ·rw [asks_C];rfl
  ·rfl
theorem on1_len {t:Talk} (g:Good t.C) (e:Nat):(onP1 t e).Out.length≤t.Out.length+800000:=by
 have hm:=(kCa g.mail).many
 have g' :Good (setE t ((e+1:Nat):Int)).C:=⟨g.name,g.mail⟩
 unfold onP1
 split
 ·have:=JKa g' (e+1)
  have e1:(setE t ((e+1:Nat):Int)).Out=t.Out:=rfl
  rw [e1] at this;omega
 ·split
  ·have:=zmb (many t+2) 2 _ g'
   have h3:=bnd_64 (m:=many t+2) (by show t.C.Mail.Envelope.To.length+2≤_;omega)
   have e1:(setE t ((e+1:Nat):Int)).Out=t.Out:=rfl
   have e2:many t=t.C.Mail.Envelope.To.length:=rfl
   rw [e1] at this;omega
  ·show t.Out.length≤_;omega
theorem kab {t:Talk} (g:Good t.C) (e:Nat):(qAa t e).Out.length≤t.Out.length+800000:=by
 have:=on1_len g e
 unfold qAa
 split
 ·exact this
 ·exact this
theorem YCa (t:Talk) (g:Good t.C) (ho:t.Out.length≤90000000000) (e:Nat) (he:t.C.Expected=(e:Int)) (h2:e≤many t+2):
  z1a (ses t (zoa t.C.Mail.Message) (rawP t.C.Mail.Message))=some (ses (qAa t e) (zoa t.C.Mail.Message) (rawP t.C.Mail.Message)):=by
 have hm:=(kCa g.mail).many
 have hmt:many t=t.C.Mail.Envelope.To.length:=rfl
 have ew:w64 (t.C.Expected+1)=((e+1:Nat):Int):=by rw [he,kUa (by omega) (by omega)];omega
 have g' :Good (setE t ((e+1:Nat):Int)).C:=⟨g.name,g.mail⟩
 have hs:(zda.mk ((zla.mk t.C.Name t.C.Mail t.C.Pipelined t.C.Buffer ((w64 (t.C.Expected+1))) t.C.Whole t.C.Done t.C.Results)) (zoa t.C.Mail.Message) (rawP t.C.Mail.Message) t.Out)=ses (setE t ((e+1:Nat):Int)) (zoa t.C.Mail.Message) (rawP t.C.Mail.Message):=by rw [ew];rfl
 have en:w64 ((t.C.Mail.Envelope.To.length:Int)+3)=((many t+3:Nat):Int):=by rw [kUa (by omega) (by omega)];omega
 have hask:=cmd_eq (setE t ((e+1:Nat):Int)) g' (by show t.Out.length≤_;omega) (e+1) (by omega) (by show e+1≤t.C.Mail.Envelope.To.length+3;omega)
 have hloop:∀j:Int × Bool,j.1=((many t+3:Nat):Int)→iter (zLa j) (2,ses (setE t ((e+1:Nat):Int)) (zoa t.C.Mail.Message) (rawP t.C.Mail.Message))=some (ses (Zja (many t+2) 2 (setE t ((e+1:Nat):Int))) (zoa t.C.Mail.Message) (rawP t.C.Mail.Message)):=fun j hj=>
  Q6a j (many t+2) 2 (setE t ((e+1:Nat):Int)) g' (by have:=bnd_64 (m:=many t+2) (by omega);show t.Out.length+bnd (many t+2)≤_;omega) (by omega) (by show 2+(many t+2)=t.C.Mail.Envelope.To.length+4;omega) hj
 have h1:∀q:Int × zda,q=(((many t+3:Nat):Int),ses (onP1 t e) (zoa t.C.Mail.Message) (rawP t.C.Mail.Message))→
   (((bif (q.2.Client.Expected==q.1) then some q.2.chunk else some false):Option Bool).bind fun (j16:Bool)=> (bif j16 then some ((zda.mk ((zla.mk q.2.Client.Name q.2.Client.Mail q.2.Client.Pipelined q.2.Client.Buffer ((w64 (q.2.Client.Expected+1))) q.2.Client.Whole q.2.Client.Done q.2.Client.Results)) q.2.content q.2.chunk q.2.out)) else some q.2))=some (ses (qAa t e) (zoa t.C.Mail.Message) (rawP t.C.Mail.Message)):=by
  rintro q rfl
  have hE:(ses (onP1 t e) (zoa t.C.Mail.Message) (rawP t.C.Mail.Message)).Client.Expected=((e+1:Nat):Int):=by show (onP1 t e).C.Expected=_;rw [on1_C]
  have ew2:w64 (((e+1:Nat):Int)+1)=((e+2:Nat):Int):=by rw [kUa (by omega) (by omega)];omega
  dsimp only
  rw [hE,ew2]
  unfold qAa
  by_cases hc:e+1=many t+3
  ·rw [show (((e+1:Nat):Int)==((many t+3:Nat):Int))=true by rw [beq_iff_eq];omega]
   simp only [cond_true,Option.bind_some]
   show (bif rawP t.C.Mail.Message then _ else _)=_
   cases hr:rawP t.C.Mail.Message with
   | true=> rw [if_pos ⟨hc,rfl⟩];rfl
   | false=> rw [if_neg (fun h=> by cases h.2)];rfl
  ·rw [show (((e+1:Nat):Int)==((many t+3:Nat):Int))=false by rw [beq_eq_false_iff_ne];omega,if_neg (fun h=> hc h.1)]
   rfl
 unfold z1a
 rw [show (zda.mk ((zla.mk (ses t (zoa t.C.Mail.Message) (rawP t.C.Mail.Message)).Client.Name (ses t (zoa t.C.Mail.Message) (rawP t.C.Mail.Message)).Client.Mail (ses t (zoa t.C.Mail.Message) (rawP t.C.Mail.Message)).Client.Pipelined (ses t (zoa t.C.Mail.Message) (rawP t.C.Mail.Message)).Client.Buffer ((w64 ((ses t (zoa t.C.Mail.Message) (rawP t.C.Mail.Message)).Client.Expected+1))) (ses t (zoa t.C.Mail.Message) (rawP t.C.Mail.Message)).Client.Whole (ses t (zoa t.C.Mail.Message) (rawP t.C.Mail.Message)).Client.Done (ses t (zoa t.C.Mail.Message) (rawP t.C.Mail.Message)).Client.Results)) (ses t (zoa t.C.Mail.Message) (rawP t.C.Mail.Message)).content (ses t (zoa t.C.Mail.Message) (rawP t.C.Mail.Message)).chunk (ses t (zoa t.C.Mail.Message) (rawP t.C.Mail.Message)).out)=ses (setE t ((e+1:Nat):Int)) (zoa t.C.Mail.Message) (rawP t.C.Mail.Message) from hs]
 unfold z0a
 simp only [Option.bind_some]
 show ((((bif (!t.C.Pipelined) then some ((w64 ((t.C.Mail.Envelope.To.length:Int)+3)),true) else some ((w64 ((t.C.Mail.Envelope.To.length:Int)+3)),((((e+1:Nat):Int))==1))):Option (Int × Bool)).bind _).bind _)=_
 rw [en]
 cases hp:t.C.Pipelined with
 | false=>
  have ho1:onP1 t e=askP (setE t ((e+1:Nat):Int)) (e+1):=by unfold onP1;rw [if_pos (.inl hp)]
  simp only [Bool.not_false,cond_true,Option.bind_some]
  show ((zya (ses (setE t ((e+1:Nat):Int)) (zoa t.C.Mail.Message) (rawP t.C.Mail.Message)) ((e+1:Nat):Int)).bind _).bind _=_
  rw [show zya (ses (setE t ((e+1:Nat):Int)) (zoa t.C.Mail.Message) (rawP t.C.Mail.Message)) ((e+1:Nat):Int)=_ from hask]
  simp only [Option.bind_some]
  exact h1 _ (by rw [ho1])
 | true=>
  simp only [Bool.not_true,cond_false,Option.bind_some]
  by_cases h0:e=0
  ·have ho1:onP1 t e=askP (setE t ((e+1:Nat):Int)) (e+1):=by unfold onP1;rw [if_pos (.inr h0)]
   rw [show (((e+1:Nat):Int)==1)=true by rw [beq_iff_eq];omega]
   simp only [cond_true]
   show ((zya (ses (setE t ((e+1:Nat):Int)) (zoa t.C.Mail.Message) (rawP t.C.Mail.Message)) ((e+1:Nat):Int)).bind _).bind _=_
   rw [show zya (ses (setE t ((e+1:Nat):Int)) (zoa t.C.Mail.Message) (rawP t.C.Mail.Message)) ((e+1:Nat):Int)=_ from hask]
   simp only [Option.bind_some]
   exact h1 _ (by rw [ho1])
  ·rw [show (((e+1:Nat):Int)==1)=false by rw [beq_eq_false_iff_ne];omega]
   simp only [cond_false]
   show ((bif (((e+1:Nat):Int)==2) then _ else _):Option (Int × zda)).bind _=_
   by_cases h1' :e=1
   ·have ho1:onP1 t e=Zja (many t+2) 2 (setE t ((e+1:Nat):Int)):=by unfold onP1;rw [if_neg (by rw [hp];simp [h0]),if_pos h1']
    rw [show (((e+1:Nat):Int)==2)=true by rw [beq_iff_eq];omega]
    simp only [cond_true]
    rw [hloop _ rfl]
    simp only [Option.bind_some]
    exact h1 _ (by rw [ho1])
   ·have ho1:onP1 t e=setE t ((e+1:Nat):Int):=by unfold onP1;rw [if_neg (by rw [hp];simp [h0]),if_neg h1']
    rw [show (((e+1:Nat):Int)==2)=false by rw [beq_eq_false_iff_ne];omega]
    simp only [cond_false,Option.bind_some]
    exact h1 _ (by rw [ho1])
end Go.Proofs.YtjnmamghadpedaaGreatDoor
namespace Go.Proofs.YtjnmamghadpedaaGreatDoor
open Go.RowKit
set_option maxHeartbeats 1000000
set_option maxRecDepth 20000
def jSa (r x:Int):Int:=if x=0 then r else x
def VAa (l:List Int) (r:Int):List Int:=l.map (jSa r)
theorem qEb (l:List Int) (r:Int):(VAa l r).length=l.length:=by unfold VAa;simp
def restP (t:Talk) (r:Int):Talk:=⟨{t.C with Done:=true,Results:=VAa t.C.Results r},t.Out⟩
def Q7a (t:Talk) (r:Int):Talk:=⟨(restP t r).C,ZOa t.Out qxb⟩
def anyO (l:List Int):Bool:=l.any fun x=> x==0
def tb (t:Talk) (b:List UInt8):Talk:=⟨{t.C with Buffer:=b},t.Out⟩
def sesR (S:zda) (l:List Int):zda:=⟨{S.Client with Results:=l},S.content,S.chunk,S.out⟩
theorem qFb (S:zda) (r:Int) (hl:S.Client.Results.length≤1048576):kea S r=some (sesR S (VAa S.Client.Results r)):=by
 have key:∀(q p:List Int),S.Client.Results=p++q→iter (zSa S r) ((p.length:Int),sesR S (p.map (jSa r)++q))=some (sesR S (p.map (jSa r)++q.map (jSa r))):=by
  intro q
  induction q with
  | nil=>
   intro p hp
   refine zIa ?_
   unfold zSa
   dsimp only
   rw [hp,decide_eq_false (by simp)]
   simp
  | cons x q ih=>
   intro p hp
   have hlen:S.Client.Results.length=p.length+(q.length+1):=by rw [hp];simp
   have hpl:(p.map (jSa r)).length=p.length:=by simp
   have hi:idx (p.map (jSa r)++x::q) (p.length:Int)=some x:=by rw [←hpl];exact idx_app _ _ _
   have hset:List.set (p.map (jSa r)++x::q) (Int.toNat (p.length:Int)) r=p.map (jSa r)++r::q:=by
    rw [Int.toNat_natCast,List.set_append_right _ _ (by simp)]
    simp
   have hstep:zSa S r ((p.length:Int),sesR S (p.map (jSa r)++x::q))=some (.cont ((((p++ [x]).length:Nat):Int),sesR S ((p++ [x]).map (jSa r)++q))):=by
    unfold zSa
    unfold sesR
    dsimp only
    rw [decide_eq_true (by omega),hi,hset]
    simp only [cond_true,Option.bind_some]
    rw [show w64 ((p.length:Int)+1)=(((p++ [x]).length:Nat):Int) by rw [kUa (by omega) (by omega)];simp]
    by_cases hx:x=0
    ·subst hx;simp [jSa]
    ·rw [beq_eq_false_iff_ne.2 hx]
     simp [jSa,hx]
   rw [zXa hstep,ih (p++ [x]) (by rw [hp];simp)]
   simp
 have:=key S.Client.Results [] rfl
 unfold kea
 rw [show iter (zSa S r) (0,S)=_ from this]
 rfl
theorem Kpa (t:Talk) (b:List UInt8) (w:Bool) (r:Int) (hl:t.C.Results.length≤1048576) (ho:t.Out.length≤1000000000000):zva (ses t b w) r=some (ses (Q7a t r) b w):=by
 unfold zva
 rw [qFb _ r hl]
 simp only [Option.bind_some]
 show ((zsa (ses ⟨{t.C with Results:=VAa t.C.Results r},t.Out⟩ b w) qxb).bind _)=_
 rw [KUa ⟨{t.C with Results:=VAa t.C.Results r},t.Out⟩ b w qxb qzb (by show ([]:Str).length≤_;simp) ho]
 rfl
theorem qGb (S:zda) (hl:S.Client.Results.length≤1048576):kfa S=some (!anyO S.Client.Results,S):=by
 unfold kfa
 rw [zHa S.Client.Results (fun i x=> if (0==x)=true then some ((i:Nat):Int) else none) (.inl ()) .inr]
 ·simp only [Option.bind_some,Qua]
  rw [QOa (fun x=> 0==x) S.Client.Results 0]
  have:(S.Client.Results.any fun x=> 0==x)=anyO S.Client.Results:=by
   unfold anyO
   congr 1
   funext x
   rw [Bool.eq_iff_iff]
   simp only [beq_iff_eq]
   exact ⟨fun h=> h.symm,fun h=> h.symm⟩
  rw [this]
 ·unfold kTa;rw [kca];rfl
 ·intro i x hx
  have hi:=kia hx
  unfold kTa
  rw [kLa hx,z3a hx]
  simp only [cond_true,Option.bind_some,sc i (by omega)]
  cases (0:Int)==x <;> rfl
structure CInv (c:zla):Prop where
 good:Good c
 len:c.Results.length=c.Mail.Envelope.To.length
 e0:0≤c.Expected
 e1:c.Expected≤(c.Mail.Envelope.To.length:Int)+4
 rng:∀r∈c.Results,0≤r∧r≤4
structure COpn (c:zla):Prop where
 whole:c.Whole=(decide (c.Expected=(c.Mail.Envelope.To.length:Int)+4) || (rawP c.Mail.Message && c.Pipelined && decide (2≤c.Expected)))
 nr:¬(rawP c.Mail.Message=true∧c.Expected=(c.Mail.Envelope.To.length:Int)+3)
 opn:∀(i:Nat) x,c.Results[i]? =some x→c.Expected≤(i:Int)+3→x=0
def wya (k:Int):Int:=if k=5 then 3 else 2
def setR (t:Talk) (i:Nat) (r:Int):Talk:=⟨{t.C with Results:=t.C.Results.set i r},t.Out⟩
def kbb (b:List UInt8):List UInt8:=jRa (fl [] b).1++ [46,13,10]
def doneP (t:Talk):Talk:=⟨{t.C with Done:=true},t.Out⟩
def bodyT (t:Talk):Talk:=⟨{t.C with Whole:=true,Expected:=((many t+4:Nat):Int)},t.Out++kbb (zoa t.C.Mail.Message)⟩
def qja (t:Talk) (k:Int) (e:Nat):Talk:=if k=2 then t else setR t (e - 3) (wya k)
def YDa (t:Talk) (k:Int) (e:Nat):Talk:=
 if e≤2 then (if k=2 then qAa t e else Q7a t (wya k))
 else if e≤many t+2 then (if e=many t+2∧t.C.Pipelined=false∧anyO (qja t k e).C.Results=false then Q7a (qja t k e) 2 else qAa (qja t k e) e)
 else if e=many t+3 then (if k=3 then (if anyO t.C.Results=false then doneP t else bodyT t) else Q7a t (wya k))
 else if k=2 then Q7a t 1 else Q7a t (wya k)
theorem wsa {α β:Type} {o:Option α} {v:α} {f:α→Option β} {r:Option β} (h:o=some v) (h2:f v=r):o.bind f=r:=by rw [h];exact h2
theorem Zba (k:Int):kya k=some (wya k):=by
 unfold kya wya
 by_cases h:k=5
 ·rw [if_pos h,h];rfl
 ·rw [if_neg h,beq_eq_false_iff_ne.2 h];rfl
theorem fl_end {b:List UInt8} (h: [13,10] <:+b):(fl [] b).2= []:=(V6a b []).2 (.inr h)
theorem raw_end {m:zqa} (h:rawP m=false): [13,10] <:+zoa m:=by unfold rawP at h;simpa using h
theorem stuff_eq {m:zqa} (h:rawP m=false) (hb:(zoa m).length≤12000):vra (zoa m)=some (kbb (zoa m),⟨0,0⟩):=by
 rw [Vza,if_neg (by omega),if_neg (by rw [fl_end (raw_end h)];simp)]
 rfl
theorem YEa (m:zqa) (hb:(zoa m).length≤12000):(kbb (zoa m)).length≤24003:=by
 have h1:=Q5a (fl [] (zoa m)).1
 have h2:=fl_joinN (zoa m)
 have h3:=zhb (fl [] (zoa m)).1
 have h4:(zEa (fl [] (zoa m)).1).length=((fl [] (zoa m)).1.flatMap fun x=> x++ [13,10]).length:=rfl
 unfold kbb
 simp only [List.length_append,List.length_cons,List.length_nil]
 omega
theorem qHb (t:Talk) (k:Int) (e:Nat):(qja t k e).C={t.C with Results:=(qja t k e).C.Results}∧(qja t k e).Out=t.Out:=by
 unfold qja
 split <;> exact ⟨rfl,rfl⟩
theorem hear_eq (t:Talk) (iv:CInv t.C) (op:COpn t.C) (ho:t.Out.length≤90000000000) (r:kDa) (hr:(Zxa r).Code=0) (hs:smLn r.Lines) (e:Nat) (he:t.C.Expected=(e:Int)):
  kva (ses t (zoa t.C.Mail.Message) (rawP t.C.Mail.Message)) r=some (ses (YDa t (iQuo r.Code 100) e) (zoa t.C.Mail.Message) (rawP t.C.Mail.Message)):=by
 have gm:=kCa iv.good.mail
 have hm:=gm.many
 have hmt:many t=t.C.Mail.Envelope.To.length:=rfl
 have hlen:=iv.len
 have h1:=iv.e1
 unfold kva z0a
 rw [Vxa r hs,if_neg (by simp [hr])]
 simp only [Option.bind_some]
 generalize iQuo r.Code 100=k
 show (bif decide (t.C.Expected < 3) then _ else (bif decide (t.C.Expected < (w64 ((t.C.Mail.Envelope.To.length:Int)+3))) then _ else (bif (t.C.Expected==(w64 ((t.C.Mail.Envelope.To.length:Int)+3))) then _ else _)))=_
 have en:w64 ((t.C.Mail.Envelope.To.length:Int)+3)=((many t+3:Nat):Int):=by rw [kUa (by omega) (by omega)];omega
 rw [he,en]
 unfold YDa
 by_cases c1:e≤2
 ·rw [decide_eq_true (by omega),if_pos c1]
  simp only [cond_true]
  by_cases hk:k=2
  ·rw [show (k !=2)=false by rw [hk];rfl,if_pos hk]
   simp only [cond_false]
   rw [show z1a _=_ from YCa t iv.good ho e he (by omega)]
   rfl
  ·rw [show (k !=2)=true by simpa using hk,if_neg hk]
   simp only [cond_true,Zba,Option.bind_some]
   rw [show zva _ _=_ from Kpa t _ _ (wya k) (by omega) (by omega)]
   rfl
 rw [decide_eq_false (show ¬((e:Int) < 3) by omega),if_neg c1]
 simp only [cond_false]
 by_cases c2:e≤many t+2
 ·rw [decide_eq_true (show (e:Int) < ((many t+3:Nat):Int) by omega),if_pos c2]
  simp only [cond_true]
  have ei:w64 ((e:Int) - 3)=((e - 3:Nat):Int):=by rw [kUa (by omega) (by omega)];omega
  have hj:((bif (k !=2) then (kya k).bind fun v16=> (idx t.C.Results ((w64 (t.C.Expected - 3)))).bind fun v18=> (idx t.C.Results ((w64 (t.C.Expected - 3)))).bind fun v20=> some (((w64 ((t.C.Mail.Envelope.To.length:Int)+3)),(zda.mk ((zla.mk t.C.Name t.C.Mail t.C.Pipelined t.C.Buffer t.C.Expected t.C.Whole t.C.Done ((List.set t.C.Results (Int.toNat ((w64 (t.C.Expected - 3)))) v16)))) (zoa t.C.Mail.Message) (rawP t.C.Mail.Message) t.Out))) else some (((w64 ((t.C.Mail.Envelope.To.length:Int)+3)),ses t (zoa t.C.Mail.Message) (rawP t.C.Mail.Message)))):Option (Int × zda))=
    some (((many t+3:Nat):Int),ses (qja t k e) (zoa t.C.Mail.Message) (rawP t.C.Mail.Message)):=by
   rw [en,show w64 (t.C.Expected - 3)=((e - 3:Nat):Int) by rw [he];exact ei]
   unfold qja
   by_cases hk:k=2
   ·rw [show (k !=2)=false by rw [hk];rfl,if_pos hk];rfl
   ·rw [show (k !=2)=true by simpa using hk,if_neg hk,Zba,jLa,List.getElem?_eq_getElem (by omega)]
    rfl
  have hR:=qHb t k e
  have hlen2:(qja t k e).C.Results.length=t.C.Results.length:=by unfold qja;split <;> simp [setR]
  have g2:Good (qja t k e).C:=by rw [hR.1];exact ⟨iv.good.name,iv.good.mail⟩
  have hM:(qja t k e).C.Mail=t.C.Mail:=by rw [hR.1]
  have hE2:(qja t k e).C.Expected=(e:Int):=by rw [hR.1];exact he
  have hP2:(qja t k e).C.Pipelined=t.C.Pipelined:=by rw [hR.1]
  have hon:=YCa (qja t k e) g2 (by rw [hR.2];exact ho) e hE2 (by show e≤(qja t k e).C.Mail.Envelope.To.length+2;rw [hM];omega)
  have hlv:=Kpa (qja t k e) (zoa t.C.Mail.Message) (rawP t.C.Mail.Message) 2 (by omega) (by rw [hR.2];omega)
  rw [hM] at hon
  refine wsa hj ?_
  show (((bif ((qja t k e).C.Expected==w64 (((many t+3:Nat):Int) - 1)) then (bif (!(qja t k e).C.Pipelined) then (kfa (ses (qja t k e) (zoa t.C.Mail.Message) (rawP t.C.Mail.Message))).bind _ else _) else _):Option (Bool × zda)).bind _)=_
  rw [hE2,hP2,show w64 (((many t+3:Nat):Int) - 1)=((many t+2:Nat):Int) by rw [kUa (by omega) (by omega)];omega]
  by_cases c3:e=many t+2
  ·rw [show ((e:Int)==((many t+2:Nat):Int))=true by rw [beq_iff_eq];omega]
   simp only [cond_true]
   cases hp:t.C.Pipelined with
   | true=>
    rw [if_neg (fun h=> by cases h.2.1)]
    simp only [Bool.not_true,cond_false,Option.bind_some]
    rw [hon]
    rfl
   | false=>
    simp only [Bool.not_false,cond_true]
    rw [qGb _ (by show (qja t k e).C.Results.length≤_;omega)]
    simp only [Option.bind_some]
    show (bif (!anyO (qja t k e).C.Results) then _ else _)=_
    cases ha:anyO (qja t k e).C.Results with
    | false=>
     rw [if_pos (by refine ⟨c3, ?_, ?_⟩ <;> simp)]
     simp only [Bool.not_false,cond_true]
     rw [hlv]
     rfl
    | true=>
     rw [if_neg (by simp)]
     simp only [Bool.not_true,cond_false]
     rw [hon]
     rfl
  ·rw [show ((e:Int)==((many t+2:Nat):Int))=false by rw [beq_eq_false_iff_ne];omega,if_neg (fun h=> c3 h.1)]
   simp only [cond_false,Option.bind_some]
   rw [hon]
   rfl
 rw [decide_eq_false (show ¬((e:Int) < ((many t+3:Nat):Int)) by omega),if_neg c2]
 simp only [cond_false]
 by_cases c3:e=many t+3
 ·rw [show ((e:Int)==((many t+3:Nat):Int))=true by rw [beq_iff_eq];omega,if_pos c3]
  simp only [cond_true]
  have hnr:rawP t.C.Mail.Message=false:=by
   cases hr:rawP t.C.Mail.Message with
   | false=> rfl
   | true=> exact absurd ⟨hr,by omega⟩ op.nr
  unfold qaa
  by_cases hk:k=3
  ·rw [show (k !=3)=false by rw [hk];rfl,if_pos hk]
   simp only [cond_false]
   rw [qGb _ (by show t.C.Results.length≤_;omega)]
   simp only [Option.bind_some]
   show ((bif (!anyO t.C.Results) then _ else _:Option zda).bind _)=_
   cases ha:anyO t.C.Results with
   | false=> rw [if_pos rfl];rfl
   | true=>
    rw [if_neg (by decide)]
    simp only [Bool.not_true,cond_false]
    have hst:=stuff_eq hnr gm.big
    have hsl:=YEa t.C.Mail.Message gm.big
    show (((vra (zoa t.C.Mail.Message)).bind fun v9=> (app 140737488355328 t.Out v9.1).bind _).bind _)=_
    rw [hst]
    simp only [Option.bind_some]
    rw [qia (by omega)]
    simp only [Option.bind_some]
    show some (zda.mk (zla.mk t.C.Name t.C.Mail t.C.Pipelined t.C.Buffer (w64 (t.C.Expected+1)) true t.C.Done t.C.Results) (zoa t.C.Mail.Message) (rawP t.C.Mail.Message) (t.Out++kbb (zoa t.C.Mail.Message)))=_
    rw [show w64 (t.C.Expected+1)=((many t+4:Nat):Int) by rw [he,kUa (by omega) (by omega)];omega]
    rfl
  ·rw [show (k !=3)=true by simpa using hk,if_neg hk]
   simp only [cond_true,Zba,Option.bind_some]
   rw [show zva _ _=_ from Kpa t _ _ (wya k) (by omega) (by omega)]
   rfl
 ·rw [show ((e:Int)==((many t+3:Nat):Int))=false by rw [beq_eq_false_iff_ne];omega,if_neg c3]
  simp only [cond_false]
  by_cases hk:k=2
  ·rw [show (k==2)=true by rw [hk];rfl,if_pos hk]
   simp only [cond_true]
   rw [show zva _ _=_ from Kpa t _ _ 1 (by omega) (by omega)]
   rfl
  ·rw [show (k==2)=false by simpa using hk,if_neg hk]
   simp only [cond_false,Zba,Option.bind_some]
   rw [show zva _ _=_ from Kpa t _ _ (wya k) (by omega) (by omega)]
   rfl
end Go.Proofs.YtjnmamghadpedaaGreatDoor
namespace Go.Proofs.YtjnmamghadpedaaGreatDoor
open Go.RowKit
set_option maxHeartbeats 1000000
set_option maxRecDepth 20000
theorem ask_tb (t:Talk) (b:List UInt8) (k:Nat):askP (tb t b) k=tb (askP t k) b:=by
 unfold askP
 by_cases k1:k=1
 ·rw [if_pos k1,if_pos k1];rfl
 rw [if_neg k1,if_neg k1]
 by_cases k2:k=2
 ·rw [if_pos k2,if_pos k2];rfl
 rw [if_neg k2,if_neg k2]
 show (match t.C.Mail.Envelope.To[k - 3]? with | some r=> (⟨(tb t b).C,ZOa t.Out (rcptC r)⟩:Talk) | none=> if rawP t.C.Mail.Message=true then ⟨{(tb t b).C with Whole:=true},ZOa t.Out (zib (zoa t.C.Mail.Message).length)++zoa t.C.Mail.Message⟩ else ⟨(tb t b).C,ZOa t.Out dataC⟩)=_
 cases t.C.Mail.Envelope.To[k - 3]? with
 | some r=> rfl
 | none=>
  dsimp only
  cases rawP t.C.Mail.Message <;> rfl
theorem qIb (b:List UInt8):∀(m k:Nat) (t:Talk),Zja m k (tb t b)=tb (Zja m k t) b
 | 0,_,_=> rfl
 | m+1,k,t=> by show Zja m (k+1) (askP (tb t b) k)=_;rw [ask_tb,qIb b m];rfl
theorem on1_tb (t:Talk) (b:List UInt8) (e:Nat):onP1 (tb t b) e=tb (onP1 t e) b:=by
 unfold onP1
 show (if t.C.Pipelined=false∨e=0 then askP (tb (setE t ((e+1:Nat):Int)) b) (e+1) else if e=1 then Zja (many t+2) 2 (tb (setE t ((e+1:Nat):Int)) b) else tb (setE t ((e+1:Nat):Int)) b)=_
 rw [ask_tb,qIb]
 split
 ·rfl
 ·split <;> rfl
theorem YFa (t:Talk) (b:List UInt8) (e:Nat):qAa (tb t b) e=tb (qAa t e) b:=by
 unfold qAa
 rw [on1_tb]
 show (if e+1=many t+3∧rawP t.C.Mail.Message=true then _ else _)=_
 split <;> rfl
theorem rcpt_tb (t:Talk) (b:List UInt8) (k:Int) (e:Nat):qja (tb t b) k e=tb (qja t k e) b:=by
 unfold qja
 split <;> rfl
theorem hear_tb (t:Talk) (b:List UInt8) (k:Int) (e:Nat):YDa (tb t b) k e=tb (YDa t k e) b:=by
 unfold YDa
 rw [rcpt_tb]
 by_cases c1:e≤2
 ·rw [if_pos c1,if_pos c1]
  by_cases hk:k=2
  ·rw [if_pos hk,if_pos hk,YFa]
  ·rw [if_neg hk,if_neg hk];rfl
 rw [if_neg c1,if_neg c1]
 by_cases c2:e≤many t+2
 ·rw [if_pos (show e≤many (tb t b)+2 from c2),if_pos c2]
  by_cases c3:e=many t+2∧t.C.Pipelined=false∧anyO (qja t k e).C.Results=false
  ·rw [if_pos (show e=many (tb t b)+2∧(tb t b).C.Pipelined=false∧anyO (tb (qja t k e) b).C.Results=false from c3),if_pos c3];rfl
  ·rw [if_neg (show ¬(e=many (tb t b)+2∧(tb t b).C.Pipelined=false∧anyO (tb (qja t k e) b).C.Results=false) from c3),if_neg c3,YFa]
 rw [if_neg (show ¬e≤many (tb t b)+2 from c2),if_neg c2]
 by_cases c3:e=many t+3
 ·rw [if_pos (show e=many (tb t b)+3 from c3),if_pos c3]
  by_cases hk:k=3
  ·rw [if_pos hk,if_pos hk]
   by_cases ha:anyO t.C.Results=false
   ·rw [if_pos (show anyO (tb t b).C.Results=false from ha),if_pos ha];rfl
   ·rw [if_neg (show ¬anyO (tb t b).C.Results=false from ha),if_neg ha];rfl
  ·rw [if_neg hk,if_neg hk];rfl
 rw [if_neg (show ¬e=many (tb t b)+3 from c3),if_neg c3]
 by_cases hk:k=2
 ·rw [if_pos hk,if_pos hk];rfl
 ·rw [if_neg hk,if_neg hk];rfl
theorem YGa (k:Int):0≤wya k∧wya k≤4:=by unfold wya;split <;> decide
theorem qJb {r x:Int} (hr:0≤r∧r≤4) (hx:0≤x∧x≤4):0≤jSa r x∧jSa r x≤4:=by unfold jSa;split <;> assumption
theorem znb {t:Talk} (iv:CInv t.C) {r:Int} (hr:0≤r∧r≤4):CInv (restP t r).C:=
 ⟨⟨iv.good.name,iv.good.mail⟩,by show (VAa t.C.Results r).length=_;rw [qEb];exact iv.len,iv.e0,iv.e1,fun x hx=> by
  obtain ⟨y,hy,rfl⟩:=List.mem_map.1 (show x∈VAa t.C.Results r from hx)
  exact qJb hr (iv.rng y hy)⟩
def VBa (a b:List Int):Prop:=∀(i:Nat) x,a[i]? =some x→x≠0→b[i]? =some x
theorem wIa (a:List Int):VBa a a:=fun _ _ h _=> h
theorem Q8a {a b c:List Int} (h:VBa a b) (h2:VBa b c):VBa a c:=fun i x hx h0=> h2 i x (h i x hx h0) h0
theorem V8a (l:List Int) (r:Int):VBa l (VAa l r):=fun i x hx h0=> by
 unfold VAa
 rw [List.getElem?_map,hx]
 show some (jSa r x)=_
 unfold jSa
 rw [if_neg h0]
structure YHa (t u:Talk):Prop where
 inv:CInv u.C
 same:u.C.Name=t.C.Name∧u.C.Mail=t.C.Mail∧u.C.Pipelined=t.C.Pipelined
 stays:VBa t.C.Results u.C.Results
 opn:u.C.Done=true∨(u.C.Done=false∧COpn u.C)
 out:u.Out.length≤t.Out.length+900000
theorem w1a {t:Talk} (iv:CInv t.C) {r:Int} (hr:0≤r∧r≤4):YHa t (Q7a t r):=by
 have:=w0a (o:=t.Out) qzb
 exact ⟨znb iv hr,⟨rfl,rfl,rfl⟩,V8a _ _, .inl rfl,by show (ZOa t.Out qxb).length≤_;omega⟩
theorem YIa (t:Talk) (k:Nat) (h1:1≤k) (h2:k≤many t+3):(askP t k).C.Whole=(t.C.Whole || (decide (k=many t+3) && rawP t.C.Mail.Message)):=by
 have hmt:many t=t.C.Mail.Envelope.To.length:=rfl
 unfold askP
 by_cases k1:k=1
 ·rw [if_pos k1,decide_eq_false (by omega)];simp
 rw [if_neg k1]
 by_cases k2:k=2
 ·rw [if_pos k2,decide_eq_false (by omega)];simp
 rw [if_neg k2]
 by_cases hk:k=many t+3
 ·rw [List.getElem?_eq_none (by omega),decide_eq_true hk]
  dsimp only
  split
  ·rename_i hr;rw [hr];simp
  ·rename_i hr;simp only [Bool.not_eq_true] at hr;rw [hr];simp
 ·rw [List.getElem?_eq_getElem (by omega),decide_eq_false hk];simp
theorem V9a:∀(m k:Nat) (t:Talk),1≤k→k+m=many t+4→0 < m→(Zja m k t).C.Whole=(t.C.Whole || rawP t.C.Mail.Message)
 | 0,_,_,_,_,h=> by omega
 | m+1,k,t,h1,h2,_=> by
  show (Zja m (k+1) (askP t k)).C.Whole=_
  have hw:=YIa t k h1 (by omega)
  have hM:=Qva t k
  have hmm:many (askP t k)=many t:=by show (askP t k).C.Mail.Envelope.To.length=_;rw [hM];rfl
  cases m with
  | zero=>
   show (askP t k).C.Whole=_
   rw [hw,decide_eq_true (by omega)];simp
  | succ m=>
   rw [V9a (m+1) (k+1) (askP t k) (by omega) (by omega) (by omega),hw,hM,decide_eq_false (by omega)]
   simp
def JLa (c:zla):Prop:=c.Whole=(decide (c.Expected=(c.Mail.Envelope.To.length:Int)+4) || (rawP c.Mail.Message && c.Pipelined && decide (2≤c.Expected)))
theorem qKb (t:Talk) (op:JLa t.C) (e:Nat) (he:t.C.Expected=(e:Int)) (h2:e≤many t+2) (hm:1≤many t):
  (onP1 t e).C.Whole=(rawP t.C.Mail.Message && (decide (e=many t+2) || (t.C.Pipelined && decide (1≤e)))):=by
 have hmt:many t=t.C.Mail.Envelope.To.length:=rfl
 have hw:t.C.Whole=(decide (t.C.Expected=(t.C.Mail.Envelope.To.length:Int)+4) || (rawP t.C.Mail.Message && t.C.Pipelined && decide (2≤t.C.Expected))):=op
 rw [he,decide_eq_false (show ¬(e:Int)=(t.C.Mail.Envelope.To.length:Int)+4 by omega),Bool.false_or] at hw
 have hw' :t.C.Whole=(rawP t.C.Mail.Message && t.C.Pipelined && decide (2≤e)):=by rw [hw];congr 1;rw [Bool.eq_iff_iff];simp;omega
 unfold onP1
 by_cases c1:t.C.Pipelined=false∨e=0
 ·rw [if_pos c1,YIa _ _ (by omega) (by show e+1≤many t+3;omega)]
  show (t.C.Whole || (decide (e+1=many t+3) && rawP t.C.Mail.Message))=_
  rw [hw']
  rcases c1 with hp | h0
  ·rw [hp]
   have:decide (e+1=many t+3)=decide (e=many t+2):=by rw [Bool.eq_iff_iff];simp
   rw [this]
   cases rawP t.C.Mail.Message <;> simp
  ·rw [decide_eq_false (show ¬2≤e by omega),decide_eq_false (show ¬e+1=many t+3 by omega),decide_eq_false (show ¬e=many t+2 by omega),decide_eq_false (show ¬1≤e by omega)]
   simp
 ·rw [if_neg c1]
  have hp:t.C.Pipelined=true:=by cases h:t.C.Pipelined with | true=> rfl | false=> exact absurd (.inl h) c1
  have h0:1≤e:=by have:¬e=0:=fun h=> c1 (.inr h);omega
  rw [hp,decide_eq_true h0]
  by_cases h1:e=1
  ·rw [if_pos h1,V9a _ _ _ (by omega) (by show 2+(many t+2)=many t+4;omega) (by omega)]
   show (t.C.Whole || rawP t.C.Mail.Message)=_
   rw [hw',decide_eq_false (show ¬2≤e by omega)]
   simp
  ·rw [if_neg h1]
   show t.C.Whole=_
   rw [hw',hp,decide_eq_true (show 2≤e by omega)]
   simp
theorem Qea {t:Talk} (iv:CInv t.C) (op:JLa t.C) (hd:t.C.Done=false) (e:Nat) (he:t.C.Expected=(e:Int)) (h2:e≤many t+2)
  (hx:∀(i:Nat) x,t.C.Results[i]? =some x→(e:Int)+1≤(i:Int)+3→x=0):YHa t (qAa t e):=by
 have hm:=(kCa iv.good.mail).many
 have hmt:many t=t.C.Mail.Envelope.To.length:=rfl
 have hw:=qKb t op e he h2 (by omega)
 have hC:=on1_C t e
 have hl:=kab iv.good e
 have hC2:(qAa t e).C={t.C with Expected:=(qAa t e).C.Expected,Whole:=(onP1 t e).C.Whole}:=by
  unfold qAa
  split
  ·show ({(onP1 t e).C with Expected:=_}:zla)=_
   rw [hC];rfl
  ·rw [hC]
 have hE:(qAa t e).C.Expected=if e+1=many t+3∧rawP t.C.Mail.Message=true then ((e+2:Nat):Int) else ((e+1:Nat):Int):=by
  unfold qAa
  split
  ·rfl
  ·rw [hC]
 have hle:=iv.len
 refine ⟨?_, ?_, ?_, .inr ⟨?_, ?_⟩,by omega⟩
 ·rw [hC2]
  refine ⟨⟨iv.good.name,iv.good.mail⟩,iv.len, ?_, ?_,iv.rng⟩
  ·show 0≤(qAa t e).C.Expected
   rw [hE];split <;> omega
  ·show (qAa t e).C.Expected≤(t.C.Mail.Envelope.To.length:Int)+4
   rw [hE];split <;> omega
 ·rw [hC2];exact ⟨rfl,rfl,rfl⟩
 ·rw [hC2];exact wIa _
 ·rw [hC2];exact hd
 ·rw [hC2,hE]
  by_cases hc:e+1=many t+3∧rawP t.C.Mail.Message=true
  ·rw [if_pos hc]
   refine ⟨?_, ?_, ?_⟩
   ·show (onP1 t e).C.Whole=(decide (((e+2:Nat):Int)=(t.C.Mail.Envelope.To.length:Int)+4) || _)
    rw [hw,hc.2,decide_eq_true (show ((e+2:Nat):Int)=(t.C.Mail.Envelope.To.length:Int)+4 by omega),decide_eq_true (show e=many t+2 by omega)]
    rfl
   ·show ¬(rawP t.C.Mail.Message=true∧((e+2:Nat):Int)=(t.C.Mail.Envelope.To.length:Int)+3)
    omega
   ·intro i x hi h3
    have h3' :((e+2:Nat):Int)≤(i:Int)+3:=h3
    exact hx i x hi (by omega)
  ·rw [if_neg hc]
   refine ⟨?_, ?_, ?_⟩
   ·show (onP1 t e).C.Whole=(decide (((e+1:Nat):Int)=(t.C.Mail.Envelope.To.length:Int)+4) || (rawP t.C.Mail.Message && t.C.Pipelined && decide (2≤((e+1:Nat):Int))))
    rw [hw,decide_eq_false (show ¬((e+1:Nat):Int)=(t.C.Mail.Envelope.To.length:Int)+4 by omega)]
    have hd2:decide (2≤((e+1:Nat):Int))=decide (1≤e):=by rw [Bool.eq_iff_iff];simp;omega
    rw [hd2]
    cases hr:rawP t.C.Mail.Message with
    | false=> simp
    | true=>
     rw [decide_eq_false (show ¬e=many t+2 by intro h;exact hc ⟨by omega,hr⟩)]
     simp
   ·show ¬(rawP t.C.Mail.Message=true∧((e+1:Nat):Int)=(t.C.Mail.Envelope.To.length:Int)+3)
    rintro ⟨a,b⟩
    exact hc ⟨by omega,a⟩
   ·intro i x hi h3
    have h3' :((e+1:Nat):Int)≤(i:Int)+3:=h3
    exact hx i x hi (by omega)
theorem kcb {t:Talk} (iv:CInv t.C) (k:Int) (e:Nat) (h0:t.C.Results[e - 3]? =some 0):CInv (qja t k e).C∧VBa t.C.Results (qja t k e).C.Results:=by
 unfold qja
 split
 ·exact ⟨iv,wIa _⟩
 ·refine ⟨⟨⟨iv.good.name,iv.good.mail⟩, ?_,iv.e0,iv.e1, ?_⟩, ?_⟩
  ·show (t.C.Results.set (e - 3) (wya k)).length=_
   rw [List.length_set];exact iv.len
  ·intro r hr
   rcases List.mem_or_eq_of_mem_set (show r∈t.C.Results.set (e - 3) (wya k) from hr) with h | h
   ·exact iv.rng r h
   ·rw [h];exact YGa k
  ·intro i x hx hn
   show (t.C.Results.set (e - 3) (wya k))[i]? =some x
   rw [List.getElem?_set]
   by_cases hi:e - 3=i
   ·rw [hi] at h0
    rw [hx] at h0
    cases h0
    exact absurd rfl hn
   ·rw [if_neg hi];exact hx
theorem after_of {t u v:Talk} (hs:u.C.Name=t.C.Name∧u.C.Mail=t.C.Mail∧u.C.Pipelined=t.C.Pipelined) (hst:VBa t.C.Results u.C.Results) (hl:u.Out.length=t.Out.length) (h2:YHa u v):YHa t v:=
 ⟨h2.inv,⟨h2.same.1.trans hs.1,h2.same.2.1.trans hs.2.1,h2.same.2.2.trans hs.2.2⟩,Q8a hst h2.stays,h2.opn,by have:=h2.out;omega⟩
theorem kdb {t:Talk} (iv:CInv t.C) (op:COpn t.C) (hd:t.C.Done=false) (k:Int) (e:Nat) (he:t.C.Expected=(e:Int)):YHa t (YDa t k e):=by
 have hm:=(kCa iv.good.mail).many
 have gm:=kCa iv.good.mail
 have hmt:many t=t.C.Mail.Envelope.To.length:=rfl
 have hlen:=iv.len
 have hmr:=YGa k
 unfold YDa
 by_cases c1:e≤2
 ·rw [if_pos c1]
  split
  ·exact Qea iv op.whole hd e he (by omega) (fun i x hi h=> op.opn i x hi (by omega))
  ·exact w1a iv hmr
 rw [if_neg c1]
 by_cases c2:e≤many t+2
 ·rw [if_pos c2]
  have h0:t.C.Results[e - 3]? =some 0:=by
   rw [List.getElem?_eq_getElem (by omega)]
   congr 1
   exact op.opn (e - 3) _ (List.getElem?_eq_getElem (by omega)) (by omega)
  have hR:=qHb t k e
  obtain ⟨iu,su⟩:=kcb iv k e h0
  have hs:(qja t k e).C.Name=t.C.Name∧(qja t k e).C.Mail=t.C.Mail∧(qja t k e).C.Pipelined=t.C.Pipelined:=by rw [hR.1];exact ⟨rfl,rfl,rfl⟩
  refine after_of hs su (by rw [hR.2]) ?_
  split
  ·exact w1a iu (by decide)
  ·have ow:JLa (qja t k e).C:=by rw [hR.1];exact op.whole
   have hmm:many (qja t k e)=many t:=by show (qja t k e).C.Mail.Envelope.To.length=_;rw [hs.2.1];rfl
   refine Qea iu ow (by rw [hR.1];exact hd) e (by rw [hR.1];exact he) (by omega) (fun i x hi h=> ?_)
   unfold qja at hi
   split at hi
   ·exact op.opn i x hi (by omega)
   ·refine op.opn i x ?_ (by omega)
    have hi' :(t.C.Results.set (e - 3) (wya k))[i]? =some x:=hi
    rw [List.getElem?_set,if_neg (by omega)] at hi'
    exact hi'
 rw [if_neg c2]
 by_cases c3:e=many t+3
 ·rw [if_pos c3]
  have hnr:rawP t.C.Mail.Message=false:=by
   cases hr:rawP t.C.Mail.Message with
   | false=> rfl
   | true=> exact absurd ⟨hr,by omega⟩ op.nr
  split
  ·split
   ·exact ⟨⟨⟨iv.good.name,iv.good.mail⟩,iv.len,iv.e0,iv.e1,iv.rng⟩,⟨rfl,rfl,rfl⟩,wIa _, .inl rfl,by show t.Out.length≤_;omega⟩
   ·have hsl:=YEa t.C.Mail.Message gm.big
    refine ⟨⟨⟨iv.good.name,iv.good.mail⟩,iv.len, ?_, ?_,iv.rng⟩,⟨rfl,rfl,rfl⟩,wIa _, .inr ⟨hd, ?_, ?_, ?_⟩, ?_⟩
    ·show (0:Int)≤((many t+4:Nat):Int);omega
    ·show ((many t+4:Nat):Int)≤(t.C.Mail.Envelope.To.length:Int)+4;omega
    ·show true=(decide (((many t+4:Nat):Int)=(t.C.Mail.Envelope.To.length:Int)+4) || _)
     rw [decide_eq_true (show ((many t+4:Nat):Int)=(t.C.Mail.Envelope.To.length:Int)+4 by omega)];rfl
    ·show ¬(rawP t.C.Mail.Message=true∧_)
     rw [hnr];simp
    ·intro i x hi h
     have h' :((many t+4:Nat):Int)≤(i:Int)+3:=h
     have:=kia (show t.C.Results[i]? =some x from hi)
     omega
    ·show (t.Out++kbb (zoa t.C.Mail.Message)).length≤_
     simp only [List.length_append];omega
  ·exact w1a iv hmr
 rw [if_neg c3]
 split
 ·exact w1a iv (by decide)
 ·exact w1a iv hmr
end Go.Proofs.YtjnmamghadpedaaGreatDoor
namespace Go.Proofs.YtjnmamghadpedaaGreatDoor
open Go.RowKit
def noCR:Str→Bool
 | c::d::r=> !(c==13 && d==10) && noCR (d::r)
 | _=> true
theorem vAa {c d:UInt8} {r:Str}:noCR (c::d::r)=true↔¬(c=13∧d=10)∧noCR (d::r)=true:=by
 rw [noCR,Bool.and_eq_true]
 by_cases h1:c=13 <;> by_cases h2:d=10 <;> simp [h1,h2]
theorem qLb (l:Str):∀cur r,noCR l=true→fl cur (l++13::10::r)=((cur++l)::(fl [] r).1,(fl [] r).2):=by
 induction l with
 | nil=> intro cur r _;simp [qtb]
 | cons c l ih=>
  intro cur r h
  cases l with
  | nil=>
   simp only [List.cons_append,List.nil_append]
   rw [WQa (by rintro ⟨_,h⟩;cases h),qtb]
  | cons d l=>
   obtain ⟨h1,h2⟩:=vAa.1 h
   simp only [List.cons_append]
   rw [WQa h1]
   have:=ih (cur++ [c]) r h2
   simp only [List.cons_append] at this
   rw [this]
   simp
theorem qMb (l:Str) (c d:UInt8):noCR (l++ [c])=true→¬(c=13∧d=10)→noCR (l++ [c,d])=true:=by
 induction l with
 | nil=> intro _ h;simp only [List.nil_append];exact vAa.2 ⟨h,rfl⟩
 | cons x l ih=>
  intro h1 h2
  cases l with
  | nil=>
   simp only [List.nil_append,List.cons_append] at h1 ih ⊢
   obtain ⟨a,b⟩:=vAa.1 h1
   exact vAa.2 ⟨a,ih b h2⟩
  | cons y l=>
   simp only [List.cons_append] at h1 ih ⊢
   obtain ⟨a,b⟩:=vAa.1 h1
   exact vAa.2 ⟨a,ih b h2⟩
theorem noCR_pre (l m:Str):noCR (l++m)=true→noCR l=true:=by
 induction l with
 | nil=> intro _;rfl
 | cons x l ih=>
  intro h
  cases l with
  | nil=> rfl
  | cons y l=>
   simp only [List.cons_append] at h ih
   obtain ⟨a,b⟩:=vAa.1 h
   exact vAa.2 ⟨a,ih b⟩
theorem fl_lines (l cur:Str):noCR (cur++l.take 1)=true→∀x∈(fl cur l).1,noCR x=true:=by
 fun_induction fl cur l with
 | case1 cur=> simp
 | case2 cur c=> simp
 | case3 cur c d r h ih=>
  intro hc x hx
  rcases List.mem_cons.1 hx with rfl | hx
  ·exact noCR_pre _ _ hc
  ·refine ih ?_ x hx
   cases r <;> rfl
 | case4 cur c d r h ih=>
  intro hc
  refine ih ?_
  have:=qMb cur c d (by simpa using hc) h
  simpa using this
theorem YJa (l:Str):∀x∈(fl [] l).1,noCR x=true:=fl_lines l [] (by cases l <;> rfl)
end Go.Proofs.YtjnmamghadpedaaGreatDoor
