/- Part 3 of the proof of the law ClientResultsStay: what it needs. -/
import Derived.Test.YtjnmamghadpedaaGreatDoorKClientResultsStay2
import Derived.Lib.IndexMore
import Derived.Lib.IndexAny
import Derived.Lib.Atoi
import Derived.Lib.Join
import Derived.Lib.Repeat
import Derived.Lib.Split
import Derived.Lib.FieldsP
import Derived.Lib.Strings
import Derived.Lib.ItoaMem
import Derived.Laws.RangeAny
import Derived.Lib.SplitLaws
set_option linter.unusedVariables false
set_option linter.unusedSimpArgs false
namespace Go.Proofs.YtjnmamghadpedaaGreatDoor
open Go.RowKit
set_option maxRecDepth 100000
theorem qia:wva Tryz.prog 9 1 cS wwa (fun s=> s.length+1):=opens_S z4a.u (by kernel_rfl)
theorem Waa:wva Tryz.prog 3 1 cI ok64 (fun _=> 1):=opens_I vla.u (by kernel_rfl)
theorem Kda:wva Tryz.prog 85 2 zca.pc zca.ok zca.bk:=⟨by kernel_rfl,fun _=> rfl,fun {H enc W fuel cs d} h=> by
 obtain ⟨xs,n,_,rfl,hl,hlen,hf⟩:=DataW.trod_struct qha.u h
 have hl2:cs.length=2:=hl.trans (by kernel_rfl)
 match xs,hlen with
 | [y0,y1],_=>
  obtain ⟨x0,r0,o0,b0⟩:=qia.op (show _=some y0 from hf 0 _ rfl)
  replace r0:RelC W _ (List.take (Tryz.prog.cellsOf 9) (List.drop 0 cs)):=r0
  rw [qia.cells] at r0
  obtain ⟨x1,r1,o1,b1⟩:=Waa.op (show _=some y1 from hf 1 _ rfl)
  replace r1:RelC W _ (List.take (Tryz.prog.cellsOf 3) (List.drop 1 cs)):=r1
  rw [Waa.cells] at r1
  exact ⟨⟨x0,x1⟩,(kza (off:=0) rfl r0 (kza (off:=1) rfl r1 (jda hl2))),⟨o0,o1⟩,by simp only [List.map,Rows.uptoBulk,Rows.uptoBulkAll,zca.bk];omega⟩⟩
theorem wGa:wva Tryz.prog 22 1 (cL zca.pc) (okL zca.ok) (bkL zca.bk):=Vka Kda rfl kda.u (by kernel_rfl)
theorem ySa:wva Tryz.prog 24 3 zFa.pc zFa.ok zFa.bk:=⟨by kernel_rfl,fun _=> rfl,fun {H enc W fuel cs d} h=> by
 obtain ⟨xs,n,_,rfl,hl,hlen,hf⟩:=DataW.trod_struct yQa.u h
 have hl2:cs.length=3:=hl.trans (by kernel_rfl)
 match xs,hlen with
 | [y0,y1,y2],_=>
  obtain ⟨x0,r0,o0,b0⟩:=qia.op (show _=some y0 from hf 0 _ rfl)
  replace r0:RelC W _ (List.take (Tryz.prog.cellsOf 9) (List.drop 0 cs)):=r0
  rw [qia.cells] at r0
  obtain ⟨x1,r1,o1,b1⟩:=wGa.op (show _=some y1 from hf 1 _ rfl)
  replace r1:RelC W _ (List.take (Tryz.prog.cellsOf 22) (List.drop 1 cs)):=r1
  rw [wGa.cells] at r1
  obtain ⟨x2,r2,o2,b2⟩:=qia.op (show _=some y2 from hf 2 _ rfl)
  replace r2:RelC W _ (List.take (Tryz.prog.cellsOf 9) (List.drop 2 cs)):=r2
  rw [qia.cells] at r2
  exact ⟨⟨x0,x1,x2⟩,(kza (off:=0) rfl r0 (kza (off:=1) rfl r1 (kza (off:=2) rfl r2 (jda hl2)))),⟨o0,o1,o2⟩,by simp only [List.map,Rows.uptoBulk,Rows.uptoBulkAll,zFa.bk];omega⟩⟩
theorem Wba:wva Tryz.prog 88 2 zfa.pc zfa.ok zfa.bk:=⟨by kernel_rfl,fun _=> rfl,fun {H enc W fuel cs d} h=> by
 obtain ⟨xs,n,_,rfl,hl,hlen,hf⟩:=DataW.trod_struct wFa.u h
 have hl2:cs.length=2:=hl.trans (by kernel_rfl)
 match xs,hlen with
 | [y0,y1],_=>
  obtain ⟨x0,r0,o0,b0⟩:=qia.op (show _=some y0 from hf 0 _ rfl)
  replace r0:RelC W _ (List.take (Tryz.prog.cellsOf 9) (List.drop 0 cs)):=r0
  rw [qia.cells] at r0
  obtain ⟨x1,r1,o1,b1⟩:=qia.op (show _=some y1 from hf 1 _ rfl)
  replace r1:RelC W _ (List.take (Tryz.prog.cellsOf 9) (List.drop 1 cs)):=r1
  rw [qia.cells] at r1
  exact ⟨⟨x0,x1⟩,(kza (off:=0) rfl r0 (kza (off:=1) rfl r1 (jda hl2))),⟨o0,o1⟩,by simp only [List.map,Rows.uptoBulk,Rows.uptoBulkAll,zfa.bk];omega⟩⟩
theorem jwa:wva Tryz.prog 25 1 (cL zfa.pc) (okL zfa.ok) (bkL zfa.bk):=Vka Wba rfl qPa.u (by kernel_rfl)
theorem op_uint8:wva Tryz.prog 5 1 cU (fun _=> True) (fun _=> 1):=opens_U zua.u (by kernel_rfl)
theorem v7a:wva Tryz.prog 26 1 (cL cU) (okL (fun _=> True)) (bkL (fun _=> 1)):=Vka op_uint8 rfl zha.u (by kernel_rfl)
theorem jxa:wva Tryz.prog 28 2 zva.pc zva.ok zva.bk:=⟨by kernel_rfl,fun _=> rfl,fun {H enc W fuel cs d} h=> by
 obtain ⟨xs,n,_,rfl,hl,hlen,hf⟩:=DataW.trod_struct kRa.u h
 have hl2:cs.length=2:=hl.trans (by kernel_rfl)
 match xs,hlen with
 | [y0,y1],_=>
  obtain ⟨x0,r0,o0,b0⟩:=jwa.op (show _=some y0 from hf 0 _ rfl)
  replace r0:RelC W _ (List.take (Tryz.prog.cellsOf 25) (List.drop 0 cs)):=r0
  rw [jwa.cells] at r0
  obtain ⟨x1,r1,o1,b1⟩:=v7a.op (show _=some y1 from hf 1 _ rfl)
  replace r1:RelC W _ (List.take (Tryz.prog.cellsOf 26) (List.drop 1 cs)):=r1
  rw [v7a.cells] at r1
  exact ⟨⟨x0,x1⟩,(kza (off:=0) rfl r0 (kza (off:=1) rfl r1 (jda hl2))),⟨o0,o1⟩,by simp only [List.map,Rows.uptoBulk,Rows.uptoBulkAll,zva.bk];omega⟩⟩
theorem KLa:wva Tryz.prog 30 5 kla.pc kla.ok kla.bk:=⟨by kernel_rfl,fun _=> rfl,fun {H enc W fuel cs d} h=> by
 obtain ⟨xs,n,_,rfl,hl,hlen,hf⟩:=DataW.trod_struct KJa.u h
 have hl2:cs.length=5:=hl.trans (by kernel_rfl)
 match xs,hlen with
 | [y0,y1],_=>
  obtain ⟨x0,r0,o0,b0⟩:=ySa.op (show _=some y0 from hf 0 _ rfl)
  replace r0:RelC W _ (List.take (Tryz.prog.cellsOf 24) (List.drop 0 cs)):=r0
  rw [ySa.cells] at r0
  obtain ⟨x1,r1,o1,b1⟩:=jxa.op (show _=some y1 from hf 1 _ rfl)
  replace r1:RelC W _ (List.take (Tryz.prog.cellsOf 28) (List.drop 3 cs)):=r1
  rw [jxa.cells] at r1
  exact ⟨⟨x0,x1⟩,(kza (off:=0) rfl r0 (kza (off:=3) rfl r1 (jda hl2))),⟨o0,o1⟩,by simp only [List.map,Rows.uptoBulk,Rows.uptoBulkAll,kla.bk];omega⟩⟩
theorem ZJa:wva Tryz.prog 4 1 cB (fun _=> True) (fun _=> 1):=opens_B Yfa.u (by kernel_rfl)
theorem YLa:wva Tryz.prog 31 1 (cL cI) (okL ok64) (bkL (fun _=> 1)):=Vka Waa rfl q0a.u (by kernel_rfl)
theorem Vna:wva Tryz.prog 33 12 zja.pc zja.ok zja.bk:=⟨by kernel_rfl,fun _=> rfl,fun {H enc W fuel cs d} h=> by
 obtain ⟨xs,n,_,rfl,hl,hlen,hf⟩:=DataW.trod_struct yka.u h
 have hl2:cs.length=12:=hl.trans (by kernel_rfl)
 match xs,hlen with
 | [y0,y1,y2,y3,y4,y5,y6,y7],_=>
  obtain ⟨x0,r0,o0,b0⟩:=qia.op (show _=some y0 from hf 0 _ rfl)
  replace r0:RelC W _ (List.take (Tryz.prog.cellsOf 9) (List.drop 0 cs)):=r0
  rw [qia.cells] at r0
  obtain ⟨x1,r1,o1,b1⟩:=KLa.op (show _=some y1 from hf 1 _ rfl)
  replace r1:RelC W _ (List.take (Tryz.prog.cellsOf 30) (List.drop 1 cs)):=r1
  rw [KLa.cells] at r1
  obtain ⟨x2,r2,o2,b2⟩:=ZJa.op (show _=some y2 from hf 2 _ rfl)
  replace r2:RelC W _ (List.take (Tryz.prog.cellsOf 4) (List.drop 6 cs)):=r2
  rw [ZJa.cells] at r2
  obtain ⟨x3,r3,o3,b3⟩:=v7a.op (show _=some y3 from hf 3 _ rfl)
  replace r3:RelC W _ (List.take (Tryz.prog.cellsOf 26) (List.drop 7 cs)):=r3
  rw [v7a.cells] at r3
  obtain ⟨x4,r4,o4,b4⟩:=Waa.op (show _=some y4 from hf 4 _ rfl)
  replace r4:RelC W _ (List.take (Tryz.prog.cellsOf 3) (List.drop 8 cs)):=r4
  rw [Waa.cells] at r4
  obtain ⟨x5,r5,o5,b5⟩:=ZJa.op (show _=some y5 from hf 5 _ rfl)
  replace r5:RelC W _ (List.take (Tryz.prog.cellsOf 4) (List.drop 9 cs)):=r5
  rw [ZJa.cells] at r5
  obtain ⟨x6,r6,o6,b6⟩:=ZJa.op (show _=some y6 from hf 6 _ rfl)
  replace r6:RelC W _ (List.take (Tryz.prog.cellsOf 4) (List.drop 10 cs)):=r6
  rw [ZJa.cells] at r6
  obtain ⟨x7,r7,o7,b7⟩:=YLa.op (show _=some y7 from hf 7 _ rfl)
  replace r7:RelC W _ (List.take (Tryz.prog.cellsOf 31) (List.drop 11 cs)):=r7
  rw [YLa.cells] at r7
  exact ⟨⟨x0,x1,x2,x3,x4,x5,x6,x7⟩,(kza (off:=0) rfl r0 (kza (off:=1) rfl r1 (kza (off:=6) rfl r2 (kza (off:=7) rfl r3 (kza (off:=8) rfl r4 (kza (off:=9) rfl r5 (kza (off:=10) rfl r6 (kza (off:=11) rfl r7 (jda hl2))))))))),⟨o0,o1,o2,o3,o4,o5,o6,o7⟩,by simp only [List.map,Rows.uptoBulk,Rows.uptoBulkAll,zja.bk];omega⟩⟩
end Go.Proofs.YtjnmamghadpedaaGreatDoor
namespace Go.Proofs.YtjnmamghadpedaaGreatDoor
open Go.RowKit
set_option maxRecDepth 100000
set_option maxHeartbeats 40000000
def zpa (a0:Int) (a1:Int):Option zsa:=
 some ((zsa.mk a0 a1))
def zQa:Option zsa:=
 some ((zsa.mk 0 0))
def z0a (a0:zsa):Option Bool:=
 some ((a0.Code !=0))
def q9a (a0:UInt8):Option Bool:=
 ((bif decide (97≤(a0.toNat:Int)) then (bif decide ((a0.toNat:Int)≤122) then some true else (bif decide (65≤(a0.toNat:Int)) then (bif decide ((a0.toNat:Int)≤90) then some true else (bif decide (48≤(a0.toNat:Int)) then some (decide ((a0.toNat:Int)≤57)) else some false)) else (bif decide (48≤(a0.toNat:Int)) then some (decide ((a0.toNat:Int)≤57)) else some false))) else (bif decide (65≤(a0.toNat:Int)) then (bif decide ((a0.toNat:Int)≤90) then some true else (bif decide (48≤(a0.toNat:Int)) then some (decide ((a0.toNat:Int)≤57)) else some false)) else (bif decide (48≤(a0.toNat:Int)) then some (decide ((a0.toNat:Int)≤57)) else some false))):Option Bool).bind fun (j1:Bool)=> some j1
def qva (a0:List UInt8) (a1:List UInt8):Option Bool:=
 some ((a0==a1))
def kHa (a0:List UInt8) (a1:List UInt8):Option Bool:=
 ((bif decide ((a1.length:Int)≤(a0.length:Int)) then (cut a0 0 ((a1.length:Int))).bind fun v3=> (qva v3 a1).bind fun v5=> some v5 else some false):Option Bool).bind fun (j1:Bool)=> some j1
def kta (a0:List UInt8) (a1:List UInt8):Option Bool:=
 ((bif decide ((a1.length:Int)≤(a0.length:Int)) then (cut a0 ((w64 ((a0.length:Int) - (a1.length:Int)))) ((a0.length:Int))).bind fun v3=> (qva v3 a1).bind fun v5=> some v5 else some false):Option Bool).bind fun (j1:Bool)=> some j1
end Go.Proofs.YtjnmamghadpedaaGreatDoor
namespace Go.Proofs.YtjnmamghadpedaaGreatDoor
open Go.RowKit
def qwa (a b:List UInt8):Option Int:=if a.length < 4294967281∧b.length=2 then some (Lib.index a b) else none
def zMa (s:Str) (c:UInt8):Option Int:=some (Lib.indexByte s c)
def kwa (s t:Str):Option Bool:=if s.length < 4294967281 then some (Lib.contains s t) else none
def q4a (s t:Str):Option (Str × Str × Bool):=if s.length < 4294967281 then some (Lib.cut s t) else none
end Go.Proofs.YtjnmamghadpedaaGreatDoor
namespace Go.Proofs.YtjnmamghadpedaaGreatDoor
open Go.RowKit
set_option maxRecDepth 100000
set_option maxHeartbeats 40000000
def kia (a0:Int):Option Bool:=
 ((bif decide (0≤a0) then some (decide (a0 < 55296)) else some false):Option Bool).bind fun (j1:Bool)=> (bif j1 then some true else ((bif decide (57343 < a0) then some (decide (a0≤1114111)) else some false):Option Bool).bind fun (j4:Bool)=> (bif j4 then some true else some false))
def kUa (a0:Str) (s7:Nat):Option (Step Nat (Unit ⊕ Int)):=
 (bif decide (s7 < a0.length) then (bif ((jua a0 s7)==65533) then some (.out (.inr (((s7:Nat):Int)))) else some (.cont (s7+wWa a0 s7))) else some (.out (.inl (()))))
def vZa (a0:Str) (a1:Int) (j23:Int × Int) (s36:Int):Option (Step Int Unit):=
 (bif decide (s36 < (((vNa a1)).length:Int)) then (idx a0 ((w64 (j23.2 - s36)))).bind fun v40=> (idx ((vNa a1)) ((w64 (j23.1 - s36)))).bind fun v42=> (bif ((v40.toNat:Int) !=(v42.toNat:Int)) then none else some (.cont (w64 (s36+1)))) else some (.out (())))
noncomputable def kVa (a0:Str) (a1:Int) (j23:Int × Int):Option (Step Int (Unit ⊕ Int)):=
 (iter (vZa a0 a1 j23) 1).bind fun b37=> some (.out (.inr ((w64 (j23.2 - j23.1)))))
noncomputable def kWa (a0:Str) (a1:Int) (s17:Int):Option (Step Int (Unit ⊕ Int)):=
 (bif decide (s17 < (a0.length:Int)) then (idx a0 s17).bind fun v24=> (idx ((vNa a1)) ((w64 ((((vNa a1)).length:Int) - 1)))).bind fun v26=> (bif ((v24.toNat:Int) !=(v26.toNat:Int)) then (cut a0 ((w64 (s17+1))) ((a0.length:Int))).bind fun v29=> (idx ((vNa a1)) ((w64 ((((vNa a1)).length:Int) - 1)))).bind fun v31=> (zMa v29 v31).bind fun v33=> (bif decide (v33 < 0) then some (.out (.inr ((-1)))) else (kVa a0 a1 ((w64 ((((vNa a1)).length:Int) - 1)),(w64 (s17+(w64 (v33+1))))))) else (kVa a0 a1 ((w64 ((((vNa a1)).length:Int) - 1)),s17))) else some (.out (.inl (()))))
noncomputable def kba (a0:Str) (a1:Int):Option Int:=
 ((bif decide (0≤a1) then some (decide (a1 < 128)) else some false):Option Bool).bind fun (j1:Bool)=> (bif j1 then (zMa a0 ((toU8 a1))).bind fun v4=> some v4 else (bif (a1==65533) then (iter (kUa a0) 0).bind (Sum.elim (fun b8=> some ((-1))) (fun b9=> some b9)) else (kia a1).bind fun v14=> (bif (!v14) then some ((-1)) else (iter (kWa a0 a1) ((w64 ((((vNa a1)).length:Int) - 1)))).bind (Sum.elim (fun b18=> some ((-1))) (fun b19=> some b19)))))
def zGa (a0:Int):Option Bool:=
 some (decide (8 < a0))
noncomputable def kXa (a0:Str) (a1:Str) (s12:Nat):Option (Step Nat (Unit ⊕ Int)):=
 (bif decide (s12 < a0.length) then (kba a1 ((jua a0 s12))).bind fun v18=> (bif decide (0≤v18) then some (.out (.inr (((s12:Nat):Int)))) else some (.cont (s12+wWa a0 s12))) else some (.out (.inl (()))))
noncomputable def qIa (a0:Str) (a1:Str):Option Int:=
 (bif (a1==([]:Str)) then some ((-1)) else (bif ((a1.length:Int)==1) then (idx a1 0).bind fun v3=> ((bif decide (128≤(v3.toNat:Int)) then some 65533 else some ((v3.toNat:Int))):Option Int).bind fun (j5:Int)=> (kba a0 j5).bind fun v7=> some v7 else (zGa ((a0.length:Int))).bind fun v9=> (bif v9 then none else (iter (kXa a0 a1) 0).bind (Sum.elim (fun b13=> some ((-1))) (fun b14=> some b14)))))
end Go.Proofs.YtjnmamghadpedaaGreatDoor
namespace Go.Proofs.YtjnmamghadpedaaGreatDoor
open Go.RowKit
def QJa (t:Str):Bool:=t.all fun c=> decide (c.toNat < 128)
def kMa (s t:Str):Option Int:=if s.length < 4294967281∧t.length < 4294967281∧2≤t.length∧QJa t=true then some (Lib.indexAny s t) else none
end Go.Proofs.YtjnmamghadpedaaGreatDoor
namespace Go.Proofs.YtjnmamghadpedaaGreatDoor
open Go.RowKit
set_option maxRecDepth 100000
set_option maxHeartbeats 40000000
def kDa (a0:List UInt8) (s11:Int × (List UInt8)):Option (Step (Int × (List UInt8)) (List UInt8)):=
 (cut a0 s11.1 ((a0.length:Int))).bind fun v14=> (qwa v14 (([(13:UInt8),(10:UInt8)]:List UInt8))).bind fun v16=> ((bif decide (v16 < 0) then some ((true,s11.2)) else (cut a0 s11.1 ((w64 (s11.1+v16)))).bind fun v20=> ((kHa v20 (([(46:UInt8)]:List UInt8))).bind fun v23=> (bif v23 then (app 140737488355328 s11.2 (([(46:UInt8)]:List UInt8))).bind fun v26=> some v26 else some s11.2):Option (List UInt8)).bind fun (j22:List UInt8)=> (app 140737488355328 j22 v20).bind fun v28=> (app 140737488355328 v28 (([13,10]:Str))).bind fun v30=> some ((false,v30))):Option (Bool × (List UInt8))).bind fun (j18:Bool × (List UInt8))=> (bif j18.1 then some (.out j18.2) else some (.cont ((w64 (s11.1+(w64 (v16+2)))),j18.2)))
noncomputable def q5a (a0:List UInt8):Option ((List UInt8) × zsa):=
 (bif decide (12000 < (a0.length:Int)) then (zpa 1 ((-1))).bind fun v2=> some ((([]:List UInt8),v2)) else ((bif decide (0 < (a0.length:Int)) then (kta a0 (([(13:UInt8),(10:UInt8)]:List UInt8))).bind fun v6=> some ((!v6)) else some false):Option Bool).bind fun (j4:Bool)=> (bif j4 then (zpa 5 ((-2))).bind fun v9=> some ((([]:List UInt8),v9)) else (iter (kDa a0) ((0,([]:List UInt8)))).bind fun b12=> (app 140737488355328 b12 (([46,13,10]:Str))).bind fun v33=> (zQa).bind fun v35=> some ((v33,v35))))
end Go.Proofs.YtjnmamghadpedaaGreatDoor
namespace Go.Proofs.YtjnmamghadpedaaGreatDoor
open Go.RowKit
set_option maxRecDepth 100000
set_option maxHeartbeats 40000000
end Go.Proofs.YtjnmamghadpedaaGreatDoor
namespace Go.Proofs.YtjnmamghadpedaaGreatDoor
open Go.RowKit
set_option maxRecDepth 100000
set_option maxHeartbeats 40000000
end Go.Proofs.YtjnmamghadpedaaGreatDoor
namespace Go.Proofs.YtjnmamghadpedaaGreatDoor
open Go.RowKit
set_option maxRecDepth 100000
set_option maxHeartbeats 40000000
def z1a (a0:Str) (a1:Str):Option Bool:=
 ((bif decide ((a1.length:Int)≤(a0.length:Int)) then (cut a0 0 ((a1.length:Int))).bind fun v3=> some ((v3==a1)) else some false):Option Bool).bind fun (j1:Bool)=> some j1
def kma (a0:Str) (a1:Str):Option Bool:=
 (z1a a0 a1).bind fun v1=> some v1
def z2a (a0:Str) (a1:Str):Option Bool:=
 ((bif decide ((a1.length:Int)≤(a0.length:Int)) then (cut a0 ((w64 ((a0.length:Int) - (a1.length:Int)))) ((a0.length:Int))).bind fun v3=> some ((v3==a1)) else some false):Option Bool).bind fun (j1:Bool)=> some j1
def kna (a0:Str) (a1:Str):Option Bool:=
 (z2a a0 a1).bind fun v1=> some v1
def kPa (a0:Str) (s5:Int):Option (Step Int (Unit ⊕ Unit)):=
 (bif decide (s5 < (a0.length:Int)) then (idx a0 s5).bind fun v11=> ((bif decide (97≤(v11.toNat:Int)) then (bif decide ((v11.toNat:Int)≤122) then some true else (bif decide (48≤(v11.toNat:Int)) then (bif decide ((v11.toNat:Int)≤57) then some true else (bif ((v11.toNat:Int)==45) then some true else some (((v11.toNat:Int)==46)))) else (bif ((v11.toNat:Int)==45) then some true else some (((v11.toNat:Int)==46))))) else (bif decide (48≤(v11.toNat:Int)) then (bif decide ((v11.toNat:Int)≤57) then some true else (bif ((v11.toNat:Int)==45) then some true else some (((v11.toNat:Int)==46)))) else (bif ((v11.toNat:Int)==45) then some true else some (((v11.toNat:Int)==46))))):Option Bool).bind fun (j13:Bool)=> (bif (!j13) then some (.out (.inr (()))) else some (.cont (w64 (s5+1)))) else some (.out (.inl (()))))
noncomputable def qxa (a0:Str):Option Bool:=
 ((bif (a0 !=([]:Str)) then (bif decide ((a0.length:Int)≤60) then ((iter (kPa a0) 0).bind (Sum.elim (fun b6=> some true) (fun b7=> some false)):Option Bool).bind fun (j4:Bool)=> (bif j4 then (kma a0 (([46]:Str))).bind fun v26=> (bif (!v26) then (kna a0 (([46]:Str))).bind fun v29=> (bif (!v29) then (kwa a0 (([46,46]:Str))).bind fun v32=> some ((!v32)) else some false) else some false) else some false) else some false) else some false):Option Bool).bind fun (j1:Bool)=> some j1
def k0a (v1:Str × Str × Bool) (s8:Int):Option (Step Int (Unit ⊕ Unit)):=
 (bif decide (s8 < (v1.1.length:Int)) then (idx v1.1 s8).bind fun v14=> ((q9a v14).bind fun v17=> (bif v17 then some true else (zMa (([45,95,46,43,61]:Str)) v14).bind fun v20=> some (decide (0≤v20))):Option Bool).bind fun (j16:Bool)=> (bif (!j16) then some (.out (.inr (()))) else some (.cont (w64 (s8+1)))) else some (.out (.inl (()))))
noncomputable def qQa (a0:Str):Option (Str × Str × Bool):=
 (q4a a0 (([64]:Str))).bind fun v1=> ((bif v1.2.2 then (bif (v1.1 !=([]:Str)) then (bif decide ((v1.1.length:Int)≤60) then ((iter (k0a v1) 0).bind (Sum.elim (fun b9=> some true) (fun b10=> some false)):Option Bool).bind fun (j7:Bool)=> (bif j7 then (qxa v1.2.1).bind fun v24=> some v24 else some false) else some false) else some false) else some false):Option Bool).bind fun (j3:Bool)=> some ((v1.1,v1.2.1,j3))
noncomputable def kxa (a0:Str):Option Bool:=
 (qQa a0).bind fun v1=> some v1.2.2
end Go.Proofs.YtjnmamghadpedaaGreatDoor
namespace Go.Proofs.YtjnmamghadpedaaGreatDoor
open Go.RowKit
set_option maxRecDepth 100000
set_option maxHeartbeats 40000000
end Go.Proofs.YtjnmamghadpedaaGreatDoor
namespace Go.Proofs.YtjnmamghadpedaaGreatDoor
open Go.RowKit
set_option maxRecDepth 100000
set_option maxHeartbeats 40000000
def vma (a0:Str) (s5:Int):Option (Step Int (Unit ⊕ Unit)):=
 (bif decide (s5 < (a0.length:Int)) then (idx a0 s5).bind fun v11=> ((q9a v11).bind fun v14=> (bif v14 then some true else (bif ((v11.toNat:Int)==45) then some true else (bif ((v11.toNat:Int)==95) then some true else some (((v11.toNat:Int)==46))))):Option Bool).bind fun (j13:Bool)=> (bif (!j13) then some (.out (.inr (()))) else some (.cont (w64 (s5+1)))) else some (.out (.inl (()))))
noncomputable def vEa (a0:Str):Option Bool:=
 ((bif (a0 !=([]:Str)) then (bif decide ((a0.length:Int)≤60) then ((iter (vma a0) 0).bind (Sum.elim (fun b6=> some true) (fun b7=> some false)):Option Bool).bind fun (j4:Bool)=> some j4 else some false) else some false):Option Bool).bind fun (j1:Bool)=> some j1
def k1a (a0:Int):Option Bool:=
 ((bif decide (0≤a0) then some (decide (a0≤7)) else some false):Option Bool).bind fun (j1:Bool)=> some j1
def kja (v7:zca) (v19:List zca) (s22:Int):Option (Step Int (Unit ⊕ Int)):=
 (bif decide (s22 < (v19.length:Int)) then (idx v19 s22).bind fun v28=> (bif (v28.Address==v7.Address) then some (.out (.inr s22)) else some (.cont (w64 (s22+1)))) else some (.out (.inl (()))))
noncomputable def kJa (a0:List zca) (s1:Int):Option (Step Int (Unit ⊕ zsa)):=
 (bif decide (s1 < (a0.length:Int)) then (idx a0 s1).bind fun v7=> (kxa v7.Address).bind fun v9=> (bif (!v9) then (zpa 10 s1).bind fun v12=> some (.out (.inr v12)) else (k1a v7.Notify).bind fun v14=> (bif (!v14) then (zpa 3 s1).bind fun v17=> some (.out (.inr v17)) else (cut a0 0 s1).bind fun v19=> ((iter (kja v7 v19) 0).bind (Sum.elim (fun b23=> some ((-1))) (fun b24=> some b24)):Option Int).bind fun (j21:Int)=> (bif decide (0≤j21) then (zpa 7 s1).bind fun v32=> some (.out (.inr v32)) else some (.cont (w64 (s1+1)))))) else some (.out (.inl (()))))
noncomputable def kIa (a0:List zca):Option zsa:=
 (iter (kJa a0) 0).bind (Sum.elim (fun b2=> (zQa).bind fun v34=> some v34) (fun b3=> some b3))
noncomputable def k2a (a0:zFa):Option zsa:=
 ((bif (a0.From !=([]:Str)) then (kxa a0.From).bind fun v3=> some ((!v3)) else some false):Option Bool).bind fun (j1:Bool)=> (bif j1 then (zpa 10 ((-10))).bind fun v6=> some v6 else ((bif decide ((a0.To.length:Int) < 1) then some true else some (decide (60 < (a0.To.length:Int)))):Option Bool).bind fun (j8:Bool)=> (bif j8 then (zpa 2 ((-11))).bind fun v11=> some v11 else ((bif (a0.Id !=([]:Str)) then (vEa a0.Id).bind fun v15=> some ((!v15)) else some false):Option Bool).bind fun (j13:Bool)=> (bif j13 then (zpa 10 ((-12))).bind fun v18=> some v18 else (kIa a0.To).bind fun v20=> some v20)))
end Go.Proofs.YtjnmamghadpedaaGreatDoor
namespace Go.Proofs.YtjnmamghadpedaaGreatDoor
open Go.RowKit
set_option maxRecDepth 100000
set_option maxHeartbeats 40000000
def zBa (a0:Str) (a1:Str):Option Bool:=
 (kMa a0 a1).bind fun v1=> some (decide (0≤v1))
def vOa (a0:Str) (s5:Int):Option (Step Int (Unit ⊕ Unit)):=
 (bif decide (s5 < (a0.length:Int)) then (idx a0 s5).bind fun v11=> ((bif decide (33≤(v11.toNat:Int)) then (bif decide ((v11.toNat:Int)≤126) then some (((v11.toNat:Int) !=58)) else some false) else some false):Option Bool).bind fun (j13:Bool)=> (bif (!j13) then some (.out (.inr (()))) else some (.cont (w64 (s5+1)))) else some (.out (.inl (()))))
noncomputable def yTa (a0:Str):Option Bool:=
 ((bif (a0 !=([]:Str)) then (bif decide ((a0.length:Int)≤60) then ((iter (vOa a0) 0).bind (Sum.elim (fun b6=> some true) (fun b7=> some false)):Option Bool).bind fun (j4:Bool)=> some j4 else some false) else some false):Option Bool).bind fun (j1:Bool)=> some j1
def yUa (a0:Str):Option Bool:=
 (zBa a0 (([13,10,0]:Str))).bind fun v1=> some v1
def qya (a0:UInt8):Option Bool:=
 ((bif ((a0.toNat:Int)==32) then some true else some (((a0.toNat:Int)==9))):Option Bool).bind fun (j1:Bool)=> some j1
def wXa (a0:Str):Option Bool:=
 ((yUa a0).bind fun v2=> (bif (!v2) then (bif (a0==([]:Str)) then some true else (idx a0 0).bind fun v6=> (qya v6).bind fun v8=> (bif (!v8) then (idx a0 ((w64 ((a0.length:Int) - 1)))).bind fun v11=> (qya v11).bind fun v13=> some ((!v13)) else some false)) else some false):Option Bool).bind fun (j1:Bool)=> some j1
def qba (s1:Int × Int) (j5:Int):Option (Step (Int × Int) Int):=
 some (.cont (j5,(w64 (s1.2+1))))
def v3a (a0:Str) (s1:Int × Int):Option (Step (Int × Int) Int):=
 (bif decide (s1.2 < (a0.length:Int)) then ((idx a0 s1.2).bind fun v7=> (qya v7).bind fun v9=> (bif (!v9) then some true else (idx a0 ((w64 (s1.2 - 1)))).bind fun v12=> (qya v12).bind fun v14=> some v14):Option Bool).bind fun (j6:Bool)=> (bif j6 then (qba s1 s1.1) else ((bif decide (0 < s1.1) then some (decide (78 < s1.2)) else some false):Option Bool).bind fun (j17:Bool)=> (bif j17 then some (.out s1.1) else (qba s1 s1.2))) else some (.out s1.1))
noncomputable def wYa (a0:Str) (a1:Int):Option Int:=
 (iter (v3a a0) ((0,(max a1 1)))).bind fun b2=> some b2
noncomputable def vPa (s18:Str × Int × (List Str)):Option (Step (Str × Int × (List Str)) (Str × (List Str))):=
 (bif decide (78 < (s18.1.length:Int)) then (wYa s18.1 s18.2.1).bind fun v22=> (bif (v22==0) then some (.out ((s18.1,s18.2.2))) else (cut s18.1 0 v22).bind fun v25=> (app 8796093022208 s18.2.2 (([v25]:List Str))).bind fun v27=> (cut s18.1 v22 ((s18.1.length:Int))).bind fun v29=> some (.cont (v29,0,v27))) else some (.out ((s18.1,s18.2.2))))
def wHa (v31:List Str) (s34:Int):Option (Step Int (Unit ⊕ ((List Str) × zsa))):=
 (bif decide (s34 < (v31.length:Int)) then (idx v31 s34).bind fun v40=> (bif decide (998 < (v40.length:Int)) then (zpa 1 s34).bind fun v43=> some (.out (.inr (([],v43)))) else some (.cont (w64 (s34+1)))) else some (.out (.inl (()))))
noncomputable def wZa (a0:Str) (a1:Str):Option ((List Str) × zsa):=
 (yTa a0).bind fun v1=> (bif (!v1) then (zpa 10 ((-1))).bind fun v4=> some (([],v4)) else (bif decide (4000 < (a1.length:Int)) then (zpa 1 ((-1))).bind fun v7=> some (([],v7)) else (wXa a1).bind fun v9=> (bif (!v9) then (zpa 11 ((-1))).bind fun v12=> some (([],v12)) else (cat a0 (([58,32]:Str))).bind fun v14=> (cat v14 a1).bind fun v16=> (iter (vPa) ((v16,(w64 ((a0.length:Int)+2)),([]:List Str)))).bind fun b19=> (app 8796093022208 b19.2 (([b19.1]:List Str))).bind fun v31=> (iter (wHa v31) 0).bind (Sum.elim (fun b35=> (zQa).bind fun v45=> some ((v31,v45))) (fun b36=> some ((b36.1,b36.2)))))))
end Go.Proofs.YtjnmamghadpedaaGreatDoor
namespace Go.Proofs.YtjnmamghadpedaaGreatDoor
open Go.RowKit
set_option maxRecDepth 100000
set_option maxHeartbeats 40000000
noncomputable def qpa (a0:List zfa) (s4:Int):Option (Step Int (Unit ⊕ zsa)):=
 (bif decide (s4 < (a0.length:Int)) then (idx a0 s4).bind fun v10=> (wZa v10.Name v10.Value).bind fun v12=> (z0a v12.2).bind fun v14=> (bif v14 then (zpa v12.2.Code s4).bind fun v17=> some (.out (.inr v17)) else some (.cont (w64 (s4+1)))) else some (.out (.inl (()))))
noncomputable def qza (a0:List zfa):Option zsa:=
 (bif decide (60 < (a0.length:Int)) then (zpa 2 ((-1))).bind fun v2=> some v2 else (iter (qpa a0) 0).bind (Sum.elim (fun b5=> (zQa).bind fun v19=> some v19) (fun b6=> some b6)))
def qja (v7:(List Str) × zsa) (s9:Int × (List UInt8)):Option (Step (Int × (List UInt8)) (List UInt8)):=
 (bif decide (s9.1 < (v7.1.length:Int)) then (idx v7.1 s9.1).bind fun v13=> (app 140737488355328 s9.2 v13).bind fun v15=> (app 140737488355328 v15 (([(13:UInt8),(10:UInt8)]:List UInt8))).bind fun v17=> some (.cont ((w64 (s9.1+1)),v17)) else some (.out s9.2))
noncomputable def qka (a0:zva) (s1:Int × (List UInt8)):Option (Step (Int × (List UInt8)) (List UInt8)):=
 (bif decide (s1.1 < (a0.Fields.length:Int)) then (idx a0.Fields s1.1).bind fun v5=> (wZa v5.Name v5.Value).bind fun v7=> (iter (qja v7) ((0,s1.2))).bind fun b10=> some (.cont ((w64 (s1.1+1)),b10)) else some (.out s1.2))
noncomputable def qJa (a0:zva):Option (List UInt8):=
 (iter (qka a0) ((0,([]:List UInt8)))).bind fun b2=> (app 140737488355328 b2 (([(13:UInt8),(10:UInt8)]:List UInt8))).bind fun v19=> (app 140737488355328 v19 a0.Body).bind fun v21=> some v21
def vna (j7:Int × Int):Option (Step (Int × Int) (Unit ⊕ Int)):=
 some (.cont (j7.1,(w64 (j7.2+1))))
def qKa (a0:List UInt8) (s1:Int × Int):Option (Step (Int × Int) (Unit ⊕ Int)):=
 (bif decide (s1.2 < (a0.length:Int)) then (idx a0 s1.2).bind fun v8=> ((bif ((v8.toNat:Int)==13) then (bif decide ((w64 (s1.2+1)) < (a0.length:Int)) then (idx a0 ((w64 (s1.2+1)))).bind fun v13=> some (((v13.toNat:Int)==10)) else some false) else some false):Option Bool).bind fun (j10:Bool)=> (bif j10 then (vna (0,(w64 (s1.2+1)))) else ((bif ((v8.toNat:Int)==13) then some true else some (((v8.toNat:Int)==10))):Option Bool).bind fun (j16:Bool)=> (bif j16 then some (.out (.inr 11)) else (bif decide (998 < (w64 (s1.1+1))) then some (.out (.inr 1)) else (vna ((w64 (s1.1+1)),s1.2))))) else some (.out (.inl (()))))
noncomputable def w0a (a0:List UInt8):Option Int:=
 (iter (qKa a0) ((0,0))).bind (Sum.elim (fun b2=> some 0) (fun b3=> some b3))
noncomputable def vQa (a0:List UInt8):Option zsa:=
 (w0a a0).bind fun v1=> (bif (v1==11) then (zpa 11 ((-5))).bind fun v4=> some v4 else (bif (v1==1) then (zpa 1 ((-6))).bind fun v7=> some v7 else (zQa).bind fun v9=> some v9))
noncomputable def kNa (a0:zva):Option zsa:=
 (qza a0.Fields).bind fun v1=> (z0a v1).bind fun v3=> (bif v3 then some v1 else (qJa a0).bind fun v6=> (bif decide (12000 < (v6.length:Int)) then (zpa 1 ((-4))).bind fun v9=> some v9 else (vQa a0.Body).bind fun v11=> some v11))
noncomputable def qRa (a0:kla):Option zsa:=
 (k2a a0.Envelope).bind fun v1=> (z0a v1).bind fun v3=> (bif v3 then some v1 else (kNa a0.Message).bind fun v6=> (z0a v6).bind fun v8=> (bif v8 then (zpa v6.Code ((-30))).bind fun v11=> some v11 else (zQa).bind fun v13=> some v13))
end Go.Proofs.YtjnmamghadpedaaGreatDoor
namespace Go.Proofs.YtjnmamghadpedaaGreatDoor
open Go.RowKit
set_option maxRecDepth 100000
set_option maxHeartbeats 40000000
end Go.Proofs.YtjnmamghadpedaaGreatDoor
namespace Go.Proofs.YtjnmamghadpedaaGreatDoor
open Go.RowKit
set_option maxRecDepth 100000
set_option maxHeartbeats 40000000
end Go.Proofs.YtjnmamghadpedaaGreatDoor
namespace Go.Proofs.YtjnmamghadpedaaGreatDoor
open Go.RowKit
set_option maxRecDepth 100000
set_option maxHeartbeats 40000000
end Go.Proofs.YtjnmamghadpedaaGreatDoor
namespace Go.Proofs.YtjnmamghadpedaaGreatDoor
open Go.RowKit
set_option maxRecDepth 100000
set_option maxHeartbeats 40000000
noncomputable def zRa (a0:List zfa):Option (List zfa):=
 (nilE a0.isEmpty (some ([])) ((app 4398046511104 ([]:List zfa) a0).bind fun v2=> some v2))
end Go.Proofs.YtjnmamghadpedaaGreatDoor
namespace Go.Proofs.YtjnmamghadpedaaGreatDoor
open Go.RowKit
set_option maxRecDepth 100000
set_option maxHeartbeats 40000000
end Go.Proofs.YtjnmamghadpedaaGreatDoor
namespace Go.Proofs.YtjnmamghadpedaaGreatDoor
open Go.RowKit
def kEa (n:Int):Option Str:=if -9223372036854775808≤n∧n≤9223372036854775807 then some (Lib.itoa n) else none
def k7a (s:Str):Option (Int × Bool):=if s.length≤18 then (match Lib.atoi s with | some n=> some (n,false) | none=> some (0,true)) else none
end Go.Proofs.YtjnmamghadpedaaGreatDoor
namespace Go.Proofs.YtjnmamghadpedaaGreatDoor
open Go.RowKit
set_option maxRecDepth 100000
set_option maxHeartbeats 40000000
def v8a (a0:Int):Option Bool:=
 ((bif decide (200≤a0) then some (decide (a0≤599)) else some false):Option Bool).bind fun (j1:Bool)=> some j1
def qLa (a0:kva) (s11:Int):Option (Step Int (Unit ⊕ zsa)):=
 (bif decide (s11 < (a0.Lines.length:Int)) then (idx a0.Lines s11).bind fun v17=> (bif decide (500 < (v17.length:Int)) then (zpa 1 s11).bind fun v20=> some (.out (.inr v20)) else (zBa v17 (([13,10]:Str))).bind fun v22=> (bif v22 then (zpa 5 s11).bind fun v25=> some (.out (.inr v25)) else some (.cont (w64 (s11+1))))) else some (.out (.inl (()))))
noncomputable def qSa (a0:kva):Option zsa:=
 (v8a a0.Code).bind fun v1=> (bif (!v1) then (zpa 3 ((-1))).bind fun v4=> some v4 else ((bif decide ((a0.Lines.length:Int) < 1) then some true else some (decide (20 < (a0.Lines.length:Int)))):Option Bool).bind fun (j6:Bool)=> (bif j6 then (zpa 2 ((-2))).bind fun v9=> some v9 else (iter (qLa a0) 0).bind (Sum.elim (fun b12=> (zQa).bind fun v27=> some v27) (fun b13=> some b13))))
def voa (a0:Str) (s1:Int):Option (Step Int (Unit ⊕ Bool)):=
 (bif decide (s1 < (a0.length:Int)) then ((idx a0 s1).bind fun v8=> (bif decide ((v8.toNat:Int) < 48) then some true else (idx a0 s1).bind fun v11=> some (decide (57 < (v11.toNat:Int)))):Option Bool).bind fun (j7:Bool)=> (bif j7 then some (.out (.inr false)) else some (.cont (w64 (s1+1)))) else some (.out (.inl (()))))
noncomputable def qAa (a0:Str):Option Bool:=
 (iter (voa a0) 0).bind (Sum.elim (fun b2=> some ((a0 !=([]:Str)))) (fun b3=> some b3))
noncomputable def w1a (a0:Str):Option (Int × Str × Bool × Bool):=
 ((bif decide ((a0.length:Int) < 4) then some true else (idx a0 3).bind fun v3=> (bif ((v3.toNat:Int) !=45) then (idx a0 3).bind fun v6=> (bif ((v6.toNat:Int) !=32) then some true else (cut a0 0 3).bind fun v9=> (qAa v9).bind fun v11=> (bif (!v11) then some true else (zBa a0 (([13,10]:Str))).bind fun v14=> some v14)) else (cut a0 0 3).bind fun v16=> (qAa v16).bind fun v18=> (bif (!v18) then some true else (zBa a0 (([13,10]:Str))).bind fun v21=> some v21))):Option Bool).bind fun (j1:Bool)=> (bif j1 then some ((0,([]:Str),false,false)) else (cut a0 0 3).bind fun v24=> (k7a v24).bind fun v26=> (cut a0 4 ((a0.length:Int))).bind fun v28=> (idx a0 3).bind fun v30=> (v8a v26.1).bind fun v32=> some ((v26.1,v28,((v30.toNat:Int)==32),v32)))
noncomputable def vKa (a0:List Str) (s4:Int × (List Str) × Int):Option (Step (Int × (List Str) × Int) (Unit ⊕ (kva × Int × zsa))):=
 (bif decide (s4.1 < (a0.length:Int)) then (idx a0 s4.1).bind fun v10=> (w1a v10).bind fun v12=> ((bif (s4.1==20) then some 2 else (bif (!v12.2.2.2) then some 11 else (bif decide (500 < (v12.2.1.length:Int)) then some 1 else ((bif decide (0 < s4.1) then some ((v12.1 !=s4.2.2)) else some false):Option Bool).bind fun (j18:Bool)=> (bif j18 then some 5 else some 0)))):Option Int).bind fun (j14:Int)=> (bif (j14 !=0) then (zpa j14 s4.1).bind fun v22=> some (.out (.inr (((kva.mk 0 ([])),0,v22)))) else (app 8796093022208 s4.2.1 (([v12.2.1]:List Str))).bind fun v24=> (bif v12.2.2.1 then (zQa).bind fun v27=> some (.out (.inr (((kva.mk v12.1 v24),(w64 (s4.1+1)),v27)))) else some (.cont ((w64 (s4.1+1)),v24,v12.1)))) else some (.out (.inl (()))))
noncomputable def wha (a0:List Str):Option (kva × Int × zsa):=
 (bif decide (300 < (a0.length:Int)) then (zpa 2 ((-1))).bind fun v2=> some (((kva.mk 0 ([])),0,v2)) else (iter (vKa a0) ((0,([]:List Str),0))).bind (Sum.elim (fun b5=> (zpa 9 ((-2))).bind fun v29=> some (((kva.mk 0 ([])),0,v29))) (fun b6=> some ((b6.1,b6.2.1,b6.2.2)))))
noncomputable def wia (a0:kva):Option (Int × zsa):=
 (qSa a0).bind fun v1=> (z0a v1).bind fun v3=> (bif v3 then some ((0,v1)) else (zQa).bind fun v6=> some (((iQuo a0.Code 100),v6)))
end Go.Proofs.YtjnmamghadpedaaGreatDoor
namespace Go.Proofs.YtjnmamghadpedaaGreatDoor
open Go.RowKit
def qBa (l:List Str) (s:Str):Option Str:=if l.length≤140737488355328∧(Lib.join l s).length≤140737488355328 then some (Lib.join l s) else none
end Go.Proofs.YtjnmamghadpedaaGreatDoor
namespace Go.Proofs.YtjnmamghadpedaaGreatDoor
open Go.RowKit
end Go.Proofs.YtjnmamghadpedaaGreatDoor
namespace Go.Proofs.YtjnmamghadpedaaGreatDoor
open Go.RowKit
set_option maxRecDepth 100000
set_option maxHeartbeats 40000000
end Go.Proofs.YtjnmamghadpedaaGreatDoor
namespace Go.Proofs.YtjnmamghadpedaaGreatDoor
open Go.RowKit
end Go.Proofs.YtjnmamghadpedaaGreatDoor
namespace Go.Proofs.YtjnmamghadpedaaGreatDoor
open Go.RowKit
end Go.Proofs.YtjnmamghadpedaaGreatDoor
namespace Go.Proofs.YtjnmamghadpedaaGreatDoor
open Go.RowKit
set_option maxRecDepth 100000
set_option maxHeartbeats 40000000
def vRa (a0:zra):Option zra:=
 ((bif (a0.Verb==1) then some ((a0.Name,([]:Str),0,0,false)) else (bif (a0.Verb==2) then some ((([]:Str),a0.Address,a0.Size,0,false)) else (bif (a0.Verb==3) then some ((([]:Str),a0.Address,0,a0.Notify,false)) else (bif (a0.Verb==5) then some ((([]:Str),([]:Str),a0.Size,0,a0.Last)) else some ((([]:Str),([]:Str),0,0,false)))))):Option (Str × Str × Int × Int × Bool)).bind fun (j1:Str × Str × Int × Int × Bool)=> some ((zra.mk a0.Verb j1.1 j1.2.1 j1.2.2.1 j1.2.2.2.1 j1.2.2.2.2))
noncomputable def qla (a0:zra):Option zsa:=
 ((bif (a0.Verb==3) then some true else (bif (a0.Verb==2) then some ((a0.Address !=([]:Str))) else some false)):Option Bool).bind fun (j1:Bool)=> ((bif decide (a0.Verb < 1) then some true else some (decide (8 < a0.Verb))):Option Bool).bind fun (j4:Bool)=> (bif j4 then (zpa 4 ((-2))).bind fun v7=> some v7 else (vRa a0).bind fun v9=> (bif (!(jia [(a0.Verb==v9.Verb),(a0.Name==v9.Name),(a0.Address==v9.Address),(a0.Size==v9.Size),(a0.Notify==v9.Notify),(a0.Last==v9.Last)])) then (zpa 5 ((-3))).bind fun v12=> some v12 else ((bif (a0.Verb==1) then (vEa a0.Name).bind fun v16=> some ((!v16)) else some false):Option Bool).bind fun (j14:Bool)=> (bif j14 then (zpa 10 ((-4))).bind fun v19=> some v19 else ((bif j1 then (kxa a0.Address).bind fun v23=> some ((!v23)) else some false):Option Bool).bind fun (j21:Bool)=> (bif j21 then (zpa 10 ((-5))).bind fun v26=> some v26 else ((bif decide (a0.Size < 0) then some true else some (decide (1000000 < a0.Size))):Option Bool).bind fun (j28:Bool)=> (bif j28 then (zpa 3 ((-6))).bind fun v31=> some v31 else (k1a a0.Notify).bind fun v33=> (bif (!v33) then (zpa 3 ((-7))).bind fun v36=> some v36 else (zQa).bind fun v38=> some v38))))))
def v4a:Option (Str × Str × Str × Str × Str × Str × Str × Str):=
 some ((([104,101,108,108,111]:Str),([109,97,105,108]:Str),([114,99,112,116]:Str),([100,97,116,97]:Str),([99,104,117,110,107]:Str),([114,101,115,101,116]:Str),([110,111,111,112]:Str),([113,117,105,116]:Str)))
def qqa:Option (zia × zia × zia):=
 some (((zia.mk 1 (([102,97,105,108,117,114,101]:Str))),(zia.mk 2 (([100,101,108,97,121]:Str))),(zia.mk 4 (([115,117,99,99,101,115,115]:Str)))))
def vFa (a0:Int) (v1:zia × zia × zia) (s3:Int × (List Str)):Option (Step (Int × (List Str)) (List Str)):=
 (bif decide (s3.1 < 3) then ((idx ([v1.1,v1.2.1,v1.2.2]:List zia) s3.1).bind fun v8=> (bif ((iAnd a0 v8.n) !=0) then (app 8796093022208 s3.2 (([v8.word]:List Str))).bind fun v11=> some v11 else some s3.2):Option (List Str)).bind fun (j7:List Str)=> some (.cont ((w64 (s3.1+1)),j7)) else some (.out s3.2))
noncomputable def qTa (a0:Int):Option Str:=
 (qqa).bind fun v1=> (iter (vFa a0 v1) ((0,([]:List Str)))).bind fun b4=> (bif ((b4.length:Int)==0) then some (([110,101,118,101,114]:Str)) else (qBa b4 (([44]:Str))).bind fun v14=> some v14)
noncomputable def vpa (a0:zra):Option (Str × zsa):=
 (qla a0).bind fun v1=> (z0a v1).bind fun v3=> (bif v3 then some ((([]:Str),v1)) else (v4a).bind fun v6=> (idx ([v6.1,v6.2.1,v6.2.2.1,v6.2.2.2.1,v6.2.2.2.2.1,v6.2.2.2.2.2.1,v6.2.2.2.2.2.2.1,v6.2.2.2.2.2.2.2]:List Str) ((w64 (a0.Verb - 1)))).bind fun v8=> ((bif (a0.Verb==1) then (cat (([32]:Str)) a0.Name).bind fun v12=> (cat v8 v12).bind fun v14=> some v14 else (bif (a0.Verb==2) then (cat (([32,60]:Str)) a0.Address).bind fun v17=> (cat v17 (([62]:Str))).bind fun v19=> (cat v8 v19).bind fun v21=> (bif (a0.Size !=0) then (kEa a0.Size).bind fun v24=> (cat (([32,115,105,122,101,61]:Str)) v24).bind fun v26=> (cat v21 v26).bind fun v28=> some v28 else some v21) else (bif (a0.Verb==3) then (cat (([32,60]:Str)) a0.Address).bind fun v31=> (cat v31 (([62]:Str))).bind fun v33=> (cat v8 v33).bind fun v35=> (bif (a0.Notify !=1) then (qTa a0.Notify).bind fun v38=> (cat (([32,110,111,116,105,102,121,61]:Str)) v38).bind fun v40=> (cat v35 v40).bind fun v42=> some v42 else some v35) else (bif (a0.Verb==5) then (kEa a0.Size).bind fun v45=> (cat (([32]:Str)) v45).bind fun v47=> (cat v8 v47).bind fun v49=> (bif a0.Last then (cat v49 (([32,108,97,115,116]:Str))).bind fun v52=> some v52 else some v49) else some v8)))):Option Str).bind fun (j10:Str)=> (zQa).bind fun v54=> some ((j10,v54)))
end Go.Proofs.YtjnmamghadpedaaGreatDoor
namespace Go.Proofs.YtjnmamghadpedaaGreatDoor
open Go.RowKit
set_option maxRecDepth 100000
set_option maxHeartbeats 40000000
end Go.Proofs.YtjnmamghadpedaaGreatDoor
namespace Go.Proofs.YtjnmamghadpedaaGreatDoor
open Go.RowKit
set_option maxRecDepth 100000
set_option maxHeartbeats 40000000
noncomputable def vqa (a0:zva):Option ((List UInt8) × zsa):=
 (kNa a0).bind fun v1=> (z0a v1).bind fun v3=> (bif v3 then some (([],v1)) else (qJa a0).bind fun v6=> (zQa).bind fun v8=> some ((v6,v8)))
end Go.Proofs.YtjnmamghadpedaaGreatDoor
namespace Go.Proofs.YtjnmamghadpedaaGreatDoor
open Go.RowKit
set_option maxRecDepth 100000
set_option maxHeartbeats 40000000
def zNa (a0:zda) (a1:Int) (s1:Int × zda):Option (Step (Int × zda) zda):=
 (bif decide (s1.1 < (a0.Client.Results.length:Int)) then ((idx s1.2.Client.Results s1.1).bind fun v6=> (idx s1.2.Client.Results s1.1).bind fun v8=> (bif (v8==0) then (idx s1.2.Client.Results s1.1).bind fun v11=> (idx s1.2.Client.Results s1.1).bind fun v13=> some ((zda.mk ((zja.mk s1.2.Client.Name s1.2.Client.Mail s1.2.Client.Pipelined s1.2.Client.Buffer s1.2.Client.Expected s1.2.Client.Whole s1.2.Client.Done ((List.set s1.2.Client.Results (Int.toNat s1.1) a1)))) s1.2.content s1.2.chunk s1.2.out)) else some s1.2):Option zda).bind fun (j5:zda)=> some (.cont ((w64 (s1.1+1)),j5)) else some (.out s1.2))
noncomputable def z7a (a0:zda) (a1:Int):Option zda:=
 (iter (zNa a0 a1) ((0,a0))).bind fun b2=> some b2
def kKa (a0:zda) (s2:Int):Option (Step Int (Unit ⊕ Int)):=
 (bif decide (s2 < (a0.Client.Results.length:Int)) then (idx a0.Client.Results s2).bind fun v8=> (idx a0.Client.Results s2).bind fun v10=> (bif (0==v10) then some (.out (.inr s2)) else some (.cont (w64 (s2+1)))) else some (.out (.inl (()))))
noncomputable def z8a (a0:zda):Option (Bool × zda):=
 ((iter (kKa a0) 0).bind (Sum.elim (fun b3=> some ((-1))) (fun b4=> some b4)):Option Int).bind fun (j1:Int)=> some (((!(decide (0≤j1))),a0))
noncomputable def zqa (a0:zda) (a1:zra):Option zda:=
 (vpa a1).bind fun v1=> (app 140737488355328 a0.out v1.1).bind fun v3=> (app 140737488355328 v3 (([(13:UInt8),(10:UInt8)]:List UInt8))).bind fun v5=> some ((zda.mk a0.Client a0.content a0.chunk v5))
noncomputable def zta (a0:zda) (a1:Int):Option zda:=
 (z7a a0 a1).bind fun v1=> (zqa v1 ((zra.mk 8 (([]:Str)) (([]:Str)) 0 0 false))).bind fun v3=> some ((zda.mk ((zja.mk v3.Client.Name v3.Client.Mail v3.Client.Pipelined v3.Client.Buffer v3.Client.Expected v3.Client.Whole true v3.Client.Results)) v3.content v3.chunk v3.out))
noncomputable def koa (a0:zda):Option zda:=
 ((bif a0.Client.Whole then some 4 else some 2):Option Int).bind fun (j1:Int)=> (z7a a0 j1).bind fun v3=> some ((zda.mk ((zja.mk v3.Client.Name v3.Client.Mail v3.Client.Pipelined v3.Client.Buffer v3.Client.Expected v3.Client.Whole true v3.Client.Results)) v3.content v3.chunk v3.out))
def zUa (a0:zda):Option (Int × zda):=
 some (((a0.Client.Mail.Envelope.To.length:Int),a0))
noncomputable def zxa (a0:zda) (a1:Int):Option zda:=
 (bif (a1==1) then (zqa a0 ((zra.mk 1 a0.Client.Name (([]:Str)) 0 0 false))).bind fun v2=> some v2 else (bif (a1==2) then (zqa a0 ((zra.mk 2 (([]:Str)) a0.Client.Mail.Envelope.From ((a0.content.length:Int)) 0 false))).bind fun v5=> some v5 else (zUa a0).bind fun v7=> (bif decide (a1 < (w64 (v7.1+3))) then (idx a0.Client.Mail.Envelope.To ((w64 (a1 - 3)))).bind fun v10=> (zqa v7.2 ((zra.mk 3 (([]:Str)) v10.Address 0 v10.Notify false))).bind fun v12=> some v12 else (bif v7.2.chunk then (zqa v7.2 ((zra.mk 5 (([]:Str)) (([]:Str)) ((v7.2.content.length:Int)) 0 true))).bind fun v15=> (app 140737488355328 v15.out v15.content).bind fun v17=> some ((zda.mk ((zja.mk v15.Client.Name v15.Client.Mail v15.Client.Pipelined v15.Client.Buffer v15.Client.Expected true v15.Client.Done v15.Client.Results)) v15.content v15.chunk v17)) else (zqa v7.2 ((zra.mk 4 (([]:Str)) (([]:Str)) 0 0 false))).bind fun v19=> some v19))))
noncomputable def zHa (j4:Int × Bool) (s10:Int × zda):Option (Step (Int × zda) zda):=
 (bif decide (s10.1≤j4.1) then (zxa s10.2 s10.1).bind fun v14=> some (.cont ((w64 (s10.1+1)),v14)) else some (.out s10.2))
noncomputable def zVa (a0:zda):Option zda:=
 (zUa ((zda.mk ((zja.mk a0.Client.Name a0.Client.Mail a0.Client.Pipelined a0.Client.Buffer ((w64 (a0.Client.Expected+1))) a0.Client.Whole a0.Client.Done a0.Client.Results)) a0.content a0.chunk a0.out))).bind fun v1=> (((bif (!v1.2.Client.Pipelined) then some (((w64 (v1.1+3)),true)) else some (((w64 (v1.1+3)),(v1.2.Client.Expected==1)))):Option (Int × Bool)).bind fun (j4:Int × Bool)=> (bif j4.2 then (zxa v1.2 v1.2.Client.Expected).bind fun v7=> some ((j4.1,v7)) else (bif (v1.2.Client.Expected==2) then (iter (zHa j4) ((2,v1.2))).bind fun b11=> some ((j4.1,b11)) else some ((j4.1,v1.2)))):Option (Int × zda)).bind fun (j3:Int × zda)=> ((bif (j3.2.Client.Expected==j3.1) then some j3.2.chunk else some false):Option Bool).bind fun (j16:Bool)=> (bif j16 then some ((zda.mk ((zja.mk j3.2.Client.Name j3.2.Client.Mail j3.2.Client.Pipelined j3.2.Client.Buffer ((w64 (j3.2.Client.Expected+1))) j3.2.Client.Whole j3.2.Client.Done j3.2.Client.Results)) j3.2.content j3.2.chunk j3.2.out)) else some j3.2)
def ksa (a0:Int):Option Int:=
 (bif (a0==5) then some 3 else some 2)
noncomputable def kYa (a0:zda) (a1:Int):Option zda:=
 (bif (a1 !=3) then (ksa a1).bind fun v2=> (zta a0 v2).bind fun v4=> some v4 else (z8a a0).bind fun v6=> (bif v6.1 then some ((zda.mk ((zja.mk v6.2.Client.Name v6.2.Client.Mail v6.2.Client.Pipelined v6.2.Client.Buffer v6.2.Client.Expected v6.2.Client.Whole true v6.2.Client.Results)) v6.2.content v6.2.chunk v6.2.out)) else (q5a v6.2.content).bind fun v9=> (app 140737488355328 v6.2.out v9.1).bind fun v11=> some ((zda.mk ((zja.mk v6.2.Client.Name v6.2.Client.Mail v6.2.Client.Pipelined v6.2.Client.Buffer ((w64 (v6.2.Client.Expected+1))) true v6.2.Client.Done v6.2.Client.Results)) v6.2.content v6.2.chunk v11))))
noncomputable def kpa (a0:zda) (a1:kva):Option zda:=
 (wia a1).bind fun v1=> (zUa a0).bind fun v3=> (bif decide (v3.2.Client.Expected < 3) then (bif (v1.1 !=2) then (ksa v1.1).bind fun v7=> (zta v3.2 v7).bind fun v9=> some v9 else (zVa v3.2).bind fun v11=> some v11) else (bif decide (v3.2.Client.Expected < (w64 (v3.1+3))) then ((bif (v1.1 !=2) then (ksa v1.1).bind fun v16=> (idx v3.2.Client.Results ((w64 (v3.2.Client.Expected - 3)))).bind fun v18=> (idx v3.2.Client.Results ((w64 (v3.2.Client.Expected - 3)))).bind fun v20=> some (((w64 (v3.1+3)),(zda.mk ((zja.mk v3.2.Client.Name v3.2.Client.Mail v3.2.Client.Pipelined v3.2.Client.Buffer v3.2.Client.Expected v3.2.Client.Whole v3.2.Client.Done ((List.set v3.2.Client.Results (Int.toNat ((w64 (v3.2.Client.Expected - 3)))) v16)))) v3.2.content v3.2.chunk v3.2.out))) else some (((w64 (v3.1+3)),v3.2))):Option (Int × zda)).bind fun (j14:Int × zda)=> ((bif (j14.2.Client.Expected==(w64 (j14.1 - 1))) then (bif (!j14.2.Client.Pipelined) then (z8a j14.2).bind fun v25=> some ((v25.1,v25.2)) else some ((false,j14.2))) else some ((false,j14.2))):Option (Bool × zda)).bind fun (j22:Bool × zda)=> (bif j22.1 then (zta j22.2 2).bind fun v28=> some v28 else (zVa j22.2).bind fun v30=> some v30) else (bif (v3.2.Client.Expected==(w64 (v3.1+3))) then (kYa v3.2 v1.1).bind fun v33=> some v33 else (bif (v1.1==2) then (zta v3.2 1).bind fun v36=> some v36 else (ksa v1.1).bind fun v38=> (zta v3.2 v38).bind fun v40=> some v40))))
noncomputable def z3a (a0:zda) (s1:Int × (List Str)):Option (Step (Int × (List Str)) (Bool × zda)):=
 (cut a0.Client.Buffer s1.1 ((a0.Client.Buffer.length:Int))).bind fun v4=> (qwa v4 (([(13:UInt8),(10:UInt8)]:List UInt8))).bind fun v6=> (bif decide (v6 < 0) then some (.out ((false,a0))) else (cut a0.Client.Buffer s1.1 ((w64 (s1.1+v6)))).bind fun v9=> (app 8796093022208 s1.2 (([v9]:List Str))).bind fun v11=> (wha v11).bind fun v13=> ((bif decide (4000 < v6) then some (((w64 (s1.1+(w64 (v6+2)))),true)) else (bif (v13.2.2.Code !=0) then some (((w64 (s1.1+(w64 (v6+2)))),(v13.2.2.Code !=9))) else some (((w64 (s1.1+(w64 (v6+2)))),false)))):Option (Int × Bool)).bind fun (j15:Int × Bool)=> (bif j15.2 then (koa a0).bind fun v19=> some (.out ((false,v19))) else (bif (v13.2.2.Code==0) then (cut a0.Client.Buffer j15.1 ((a0.Client.Buffer.length:Int))).bind fun v22=> (kpa ((zda.mk ((zja.mk a0.Client.Name a0.Client.Mail a0.Client.Pipelined v22 a0.Client.Expected a0.Client.Whole a0.Client.Done a0.Client.Results)) a0.content a0.chunk a0.out)) v13.1).bind fun v24=> some (.out ((true,v24))) else some (.cont (j15.1,v11)))))
noncomputable def kqa (a0:zda):Option (Bool × zda):=
 (iter (z3a a0) ((0,([]:List Str)))).bind fun b2=> some ((b2.1,b2.2))
noncomputable def vaa (a0:Str) (a1:kla):Option zsa:=
 (vEa a0).bind fun v1=> (bif (!v1) then (zpa 10 ((-20))).bind fun v4=> some v4 else (qRa a1).bind fun v6=> some v6)
noncomputable def qca (a0:kla):Option kla:=
 ((nilE a0.Envelope.To.isEmpty (some ([])) ((app 5864062014805 ([]:List zca) a0.Envelope.To).bind fun v3=> some v3)):Option (List zca)).bind fun (j1:List zca)=> (zRa a0.Message.Fields).bind fun v5=> ((nilE a0.Message.Body.isEmpty (some ([])) ((app 140737488355328 ([]:List UInt8) a0.Message.Body).bind fun v9=> some v9)):Option (List UInt8)).bind fun (j7:List UInt8)=> some ((kla.mk ((zFa.mk a0.Envelope.From j1 a0.Envelope.Id)) ((zva.mk v5 j7))))
noncomputable def vSa (a0:Str) (a1:kla) (a2:Bool):Option (zja × zsa):=
 (vaa a0 a1).bind fun v1=> (z0a v1).bind fun v3=> (bif v3 then some (((zja.mk (([]:Str)) ((kla.mk ((zFa.mk (([]:Str)) ([]) (([]:Str)))) ((zva.mk ([]) ([]))))) false ([]) 0 false false ([])),v1)) else (qca a1).bind fun v6=> (zmk 17592186044416 ((a1.Envelope.To.length:Int)) (0:Int)).bind fun v8=> (zQa).bind fun v10=> some (((zja.mk a0 v6 a2 ([]) 0 false false v8),v10)))
noncomputable def qma (a0:zva):Option ((List UInt8) × Bool):=
 (vqa a0).bind fun v1=> (kta v1.1 (([(13:UInt8),(10:UInt8)]:List UInt8))).bind fun v3=> some ((v1.1,(!v3)))
def qUa (a0:zja) (s13:Int):Option (Step Int (Unit ⊕ Bool)):=
 (bif decide (s13 < (a0.Results.length:Int)) then (idx a0.Results s13).bind fun v19=> ((bif decide (a0.Expected≤(w64 (s13+3))) then some ((v19 !=0)) else some false):Option Bool).bind fun (j21:Bool)=> (bif j21 then some (.out (.inr false)) else some (.cont (w64 (s13+1)))) else some (.out (.inl (()))))
noncomputable def wja (a0:zja):Option Bool:=
 (qma a0.Mail.Message).bind fun v1=> ((bif (a0.Expected==(w64 ((a0.Mail.Envelope.To.length:Int)+4))) then (bif (a0.Whole !=true) then some true else (bif v1.2 then some ((a0.Expected==(w64 ((a0.Mail.Envelope.To.length:Int)+3)))) else some false)) else (bif v1.2 then (bif a0.Pipelined then (bif (a0.Whole !=decide (2≤a0.Expected)) then some true else some ((a0.Expected==(w64 ((a0.Mail.Envelope.To.length:Int)+3))))) else (bif (a0.Whole !=false) then some true else some ((a0.Expected==(w64 ((a0.Mail.Envelope.To.length:Int)+3)))))) else (bif (a0.Whole !=false) then some true else some false))):Option Bool).bind fun (j3:Bool)=> (bif j3 then some false else (iter (qUa a0) 0).bind (Sum.elim (fun b14=> some true) (fun b15=> some b15)))
def qCa (a0:zja) (s9:Int):Option (Step Int (Unit ⊕ Int)):=
 (bif decide (s9 < (a0.Results.length:Int)) then (idx a0.Results s9).bind fun v15=> ((bif decide (v15 < 0) then some true else some (decide (4 < v15))):Option Bool).bind fun (j17:Bool)=> (bif j17 then some (.out (.inr s9)) else some (.cont (w64 (s9+1)))) else some (.out (.inl (()))))
noncomputable def vba (a0:zja):Option zsa:=
 (vaa a0.Name a0.Mail).bind fun v1=> (z0a v1).bind fun v3=> (bif v3 then some v1 else ((bif ((a0.Results.length:Int) !=(a0.Mail.Envelope.To.length:Int)) then some true else ((iter (qCa a0) 0).bind (Sum.elim (fun b10=> some ((-1))) (fun b11=> some b11)):Option Int).bind fun (j8:Int)=> (bif decide (0≤j8) then some true else (bif decide (a0.Expected < 0) then some true else (bif decide ((w64 ((a0.Mail.Envelope.To.length:Int)+4)) < a0.Expected) then some true else (bif decide (40000 < (a0.Buffer.length:Int)) then some true else (bif (!a0.Done) then (wja a0).bind fun v25=> some ((!v25)) else some false)))))):Option Bool).bind fun (j6:Bool)=> (bif j6 then (zpa 5 ((-23))).bind fun v28=> some v28 else (zQa).bind fun v30=> some v30))
noncomputable def kfa (a0:List Int):Option (List Int):=
 (nilE a0.isEmpty (some ([])) ((app 17592186044416 ([]:List Int) a0).bind fun v2=> some v2))
def zYa (a0:List (List UInt8)) (s1:Int × Int):Option (Step (Int × Int) Int):=
 (bif decide (s1.2 < (a0.length:Int)) then (idx a0 s1.2).bind fun v5=> (bif decide ((w64 (s1.1+(v5.length:Int))) < 0) then none else some (.cont ((w64 (s1.1+(v5.length:Int))),(w64 (s1.2+1))))) else some (.out s1.1))
def zZa (a0:List (List UInt8)) (s14:Int × (List UInt8)):Option (Step (Int × (List UInt8)) (List UInt8)):=
 (bif decide (s14.1 < (a0.length:Int)) then (idx a0 s14.1).bind fun v18=> (app 140737488355328 s14.2 v18).bind fun v20=> some (.cont ((w64 (s14.1+1)),v20)) else some (.out s14.2))
def kga (a0:List (List UInt8)) (s22:Int × (List UInt8)):Option (Step (Int × (List UInt8)) (List UInt8)):=
 (bif decide (s22.1 < (a0.length:Int)) then (idx a0 s22.1).bind fun v26=> (app 140737488355328 s22.2 v26).bind fun v28=> some (.cont ((w64 (s22.1+1)),v28)) else some (.out s22.2))
noncomputable def kea (a0:List (List UInt8)):Option (List UInt8):=
 (iter (zYa a0) ((0,0))).bind fun b2=> (bif decide (b2 < 0) then none else (bif decide (0 < (w64 (b2 - (w64 (0 - 0))))) then (zrep 140737488355328 ((w64 (b2 - (w64 (0 - 0))))) ((0:UInt8):UInt8)).bind fun v10=> (cut v10 0 0).bind fun v12=> (iter (zZa a0) ((0,v12))).bind fun b15=> some b15 else (iter (kga a0) ((0,([]:List UInt8)))).bind fun b23=> some b23))
noncomputable def kSa (s17:zda):Option (Step zda zda):=
 ((bif (!s17.Client.Done) then (kqa s17).bind fun v22=> some ((v22.1,v22.2)) else some ((false,s17))):Option (Bool × zda)).bind fun (j20:Bool × zda)=> (bif j20.1 then some (.cont j20.2) else some (.out j20.2))
noncomputable def qDa (a0:zja) (a1:List UInt8):Option (zja × (List UInt8) × zsa):=
 (vba a0).bind fun v1=> (z0a v1).bind fun v3=> (bif v3 then some (((zja.mk (([]:Str)) ((kla.mk ((zFa.mk (([]:Str)) ([]) (([]:Str)))) ((zva.mk ([]) ([]))))) false ([]) 0 false false ([])), [],v1)) else (bif decide (40000 < (w64 ((a0.Buffer.length:Int)+(a1.length:Int)))) then (zpa 1 ((-1))).bind fun v7=> some (((zja.mk (([]:Str)) ((kla.mk ((zFa.mk (([]:Str)) ([]) (([]:Str)))) ((zva.mk ([]) ([]))))) false ([]) 0 false false ([])), [],v7)) else (qca a0.Mail).bind fun v9=> (kfa a0.Results).bind fun v11=> (kea (([a0.Buffer,a1]:List (List UInt8)))).bind fun v13=> (qma v9.Message).bind fun v15=> (iter (kSa) ((zda.mk ((zja.mk a0.Name v9 a0.Pipelined v13 a0.Expected a0.Whole a0.Done v11)) v15.1 v15.2 (([]:List UInt8))))).bind fun b18=> (((nilE b18.Client.Buffer.isEmpty (some ([])) ((app 140737488355328 ([]:List UInt8) b18.Client.Buffer).bind fun v28=> some v28)):Option (List UInt8)).bind fun (j26:List UInt8)=> (bif b18.Client.Done then some ((zda.mk ((zja.mk b18.Client.Name b18.Client.Mail b18.Client.Pipelined ([]) b18.Client.Expected b18.Client.Whole b18.Client.Done b18.Client.Results)) b18.content b18.chunk b18.out)) else some ((zda.mk ((zja.mk b18.Client.Name b18.Client.Mail b18.Client.Pipelined j26 b18.Client.Expected b18.Client.Whole b18.Client.Done b18.Client.Results)) b18.content b18.chunk b18.out))):Option zda).bind fun (j25:zda)=> (zQa).bind fun v31=> some ((j25.Client,j25.out,v31))))
noncomputable def vTa (a0:zja):Option (zja × zsa):=
 (vba a0).bind fun v1=> (z0a v1).bind fun v3=> (bif v3 then some (((zja.mk (([]:Str)) ((kla.mk ((zFa.mk (([]:Str)) ([]) (([]:Str)))) ((zva.mk ([]) ([]))))) false ([]) 0 false false ([])),v1)) else (qca a0.Mail).bind fun v6=> (kfa a0.Results).bind fun v8=> (koa ((zda.mk ((zja.mk a0.Name v6 a0.Pipelined ([]) a0.Expected a0.Whole a0.Done v8)) ([]) false (([]:List UInt8))))).bind fun v10=> (zQa).bind fun v12=> some ((v10.Client,v12)))
def Zga (a0:List Int) (a1:List Int) (s2:Int):Option (Step Int (Unit ⊕ Bool)):=
 (bif decide (s2 < (a0.length:Int)) then (idx a0 s2).bind fun v8=> (idx a1 s2).bind fun v10=> (bif (v8 !=v10) then some (.out (.inr false)) else some (.cont (w64 (s2+1)))) else some (.out (.inl (()))))
noncomputable def KMa (a0:List Int) (a1:List Int):Option Bool:=
 (bif ((a0.length:Int) !=(a1.length:Int)) then some false else (iter (Zga a0 a1) 0).bind (Sum.elim (fun b3=> some true) (fun b4=> some b4)))
def yla (a0:List Str) (s1:Int × (List zca)):Option (Step (Int × (List zca)) (List zca)):=
 (bif decide (s1.1 < (a0.length:Int)) then (idx a0 s1.1).bind fun v5=> (app 5864062014805 s1.2 (([(zca.mk v5 1)]:List zca))).bind fun v7=> some (.cont ((w64 (s1.1+1)),v7)) else some (.out s1.2))
noncomputable def Zha (a0:List Str):Option kla:=
 (iter (yla a0) ((0,([]:List zca)))).bind fun b2=> some ((kla.mk ((zFa.mk (([115,64,120]:Str)) b2 (([55]:Str)))) ((zva.mk ([]) ([])))))
noncomputable def jea:Option Bool:=
 (Zha (([([97,64,121]:Str)]:List Str))).bind fun v1=> (vSa (([99]:Str)) v1 false).bind fun v3=> (qDa v3.1 (([(50:UInt8),(50:UInt8),(48:UInt8),(32:UInt8),(109:UInt8),(120:UInt8),(13:UInt8),(10:UInt8)]:List UInt8))).bind fun v5=> (qDa v5.1 (([(50:UInt8),(53:UInt8),(48:UInt8),(45:UInt8),(109:UInt8),(120:UInt8),(13:UInt8),(10:UInt8),(50:UInt8),(53:UInt8),(48:UInt8),(32:UInt8),(111:UInt8),(107:UInt8),(13:UInt8),(10:UInt8)]:List UInt8))).bind fun v7=> (vTa v7.1).bind fun v9=> ((bif (v3.2.Code==0) then (bif (v5.2.2.Code==0) then (bif (v7.2.2.Code==0) then (bif (v9.2.Code==0) then (bif (v5.2.1==([104,101,108,108,111,32,99,13,10]:Str)) then (bif (v7.2.1==([109,97,105,108,32,60,115,64,120,62,32,115,105,122,101,61,50,13,10]:Str)) then (bif (v5.1.Expected==1) then (bif v9.1.Done then (KMa v9.1.Results (([2]:List Int))).bind fun v20=> some v20 else some false) else some false) else some false) else some false) else some false) else some false) else some false) else some false):Option Bool).bind fun (j11:Bool)=> some j11
def kAa (a0:zja) (v1:zja × (List UInt8) × zsa) (s14:Int):Option (Step Int (Unit ⊕ Bool)):=
 (bif decide (s14 < (v1.1.Results.length:Int)) then ((idx a0.Results s14).bind fun v21=> (bif (v21 !=0) then (idx v1.1.Results s14).bind fun v24=> (idx a0.Results s14).bind fun v26=> some ((v24 !=v26)) else some false):Option Bool).bind fun (j20:Bool)=> (bif j20 then some (.out (.inr false)) else some (.cont (w64 (s14+1)))) else some (.out (.inl (()))))
noncomputable def kZa (a0:zja) (a1:List UInt8) (a2:List UInt8):Option Bool:=
 (qDa a0 a1).bind fun v1=> ((jea).bind fun v4=> (bif (!v4) then some true else (bif (v1.2.2.Code !=0) then some true else some (((v1.1.Results.length:Int) !=(a0.Results.length:Int))))):Option Bool).bind fun (j3:Bool)=> (bif j3 then ((jea).bind fun v10=> (bif v10 then (bif (v1.2.2.Code !=0) then some (((v1.1.Results.length:Int)==0)) else some false) else some false):Option Bool).bind fun (j9:Bool)=> some j9 else (iter (kAa a0 v1) 0).bind (Sum.elim (fun b15=> (bif (!v1.1.Done) then some true else (qDa v1.1 a2).bind fun v30=> ((bif decide (40000 < (a2.length:Int)) then some true else (bif (v30.2.2.Code==0) then (bif ((v30.2.1.length:Int)==0) then (KMa v30.1.Results v1.1.Results).bind fun v36=> some v36 else some false) else some false)):Option Bool).bind fun (j32:Bool)=> some j32)) (fun b16=> some b16)))
end Go.Proofs.YtjnmamghadpedaaGreatDoor
namespace Go.Proofs.YtjnmamghadpedaaGreatDoor
open Go.RowKit
theorem QKa (a b:Nat) (h:a+b≤9223372036854775807):w64 ((a:Int)+(b:Int))=((a+b:Nat):Int):=by
 rw [qfa (by omega) (by omega)];simp
theorem w64_nl (a k:Nat) (h:a+OfNat.ofNat k≤9223372036854775807):w64 ((a:Int)+(no_index (OfNat.ofNat k:Int)))=((a+OfNat.ofNat k:Nat):Int):=by
 have e:(OfNat.ofNat k:Int)=((OfNat.ofNat k:Nat):Int):=rfl
 rw [e];exact QKa a _ h
theorem w64_ns (a b:Nat) (h:b≤a) (ha:a≤9223372036854775807):w64 ((a:Int) - (b:Int))=((a - b:Nat):Int):=by
 rw [qfa (by omega) (by omega)];omega
theorem w64_n (a:Nat) (h:a≤9223372036854775807):w64 (a:Int)=(a:Int):=qfa (by omega) (by omega)
theorem Kea (c:UInt8) (k:Nat) (hk:OfNat.ofNat k < 256):((c.toNat:Int)==no_index (OfNat.ofNat k:Int))=(c==OfNat.ofNat k):=by
 have e:(OfNat.ofNat k:Int)=((OfNat.ofNat k:Nat):Int):=rfl
 have h2:(OfNat.ofNat k:UInt8).toNat=(OfNat.ofNat k:Nat):=by
  show (UInt8.ofNat k).toNat=k
  rw [UInt8.toNat_ofNat'];exact Nat.mod_eq_of_lt hk
 rw [Bool.eq_iff_iff,beq_iff_eq,beq_iff_eq,←UInt8.toNat_inj,h2,e]
 omega
theorem u8_ne (c:UInt8) (k:Nat) (hk:OfNat.ofNat k < 256):((c.toNat:Int) !=no_index (OfNat.ofNat k:Int))=(c !=OfNat.ofNat k):=by
 unfold bne;rw [Kea c k hk]
section
variable {α:Type}
theorem yVa (l:List α) (i:Nat):idx l (i:Int)=l[i]? :=by unfold idx;rw [if_pos (by omega)];simp
theorem YMa {l:List α} {i:Nat} (h:i < l.length):idx l (i:Int)=some l[i]:=by rw [yVa];exact List.getElem?_eq_getElem h
theorem idx_app (p:List α) (x:α) (r:List α):idx (p++x::r) (p.length:Int)=some x:=by rw [yVa];simp
theorem YNa {l:List α} {a b:Nat} (h1:a≤b) (h2:b≤l.length):cut l (a:Int) (b:Int)=some ((l.drop a).take (b - a)):=by
 unfold cut;rw [if_pos (by omega)];simp
theorem jya {l:List α} {a:Nat} (h1:a≤l.length):cut l (a:Int) (l.length:Int)=some (l.drop a):=by
 rw [YNa h1 (Nat.le_refl _)];rw [List.take_of_length_le (by simp)]
theorem QLa {l:List α} {b:Nat} (h2:b≤l.length):cut l 0 (b:Int)=some (l.take b):=by
 have:=YNa (l:=l) (a:=0) (b:=b) (by omega) h2
 simpa using this
theorem qVa {lim:Nat} {l xs:List α} (h:l.length+xs.length≤lim):app lim l xs=some (l++xs):=by unfold app;rw [if_pos h]
theorem vUa {a b:Str} (h:a.length+b.length≤9223372036854775807):cat a b=some (a++b):=by unfold cat;rw [if_pos h]
end
section
variable {A R:Type} {body:A→Option (Step A R)}
theorem Voa (Inv:A→Prop) (m:A→Nat) (Post:A→R→Prop)
  (h:∀s,Inv s→(∃r,body s=some (.out r)∧Post s r)∨∃s',body s=some (.cont s')∧Inv s' ∧m s' < m s∧∀r,Post s' r→Post s r):
  ∀s,Inv s→∃r,iter body s=some r∧Post s r:=by
 intro s
 induction hn:m s using Nat.strongRecOn generalizing s with
 | _ n ih=>
  intro hi
  rcases h s hi with ⟨r,h1,h2⟩ | ⟨s',h1,h2,h3,h4⟩
  ·exact ⟨r,zOa h1,h2⟩
  ·obtain ⟨r,h5,h6⟩:=ih (m s') (by omega) s' rfl h2
   exact ⟨r,(z9a h1).trans h5,h4 r h6⟩
theorem Jwa {α S:Type} (l:List α) (enc:Nat→S→A) (spec:Nat→List α→S→R) (Inv:Nat→List α→S→Prop)
  (h0:∀s,Inv l.length [] s→body (enc l.length s)=some (.out (spec l.length [] s)))
  (h1:∀p x r s,l=p++x::r→Inv p.length (x::r) s→(body (enc p.length s)=some (.out (spec p.length (x::r) s)))∨∃s',body (enc p.length s)=some (.cont (enc (p.length+1) s'))∧spec p.length (x::r) s=spec (p.length+1) r s' ∧Inv (p.length+1) r s'):
  ∀{s0:A} (s:S) (_:s0=enc 0 s) (_:Inv 0 l s),iter body s0=some (spec 0 l s):=by
 have key:∀r p s,l=p++r→Inv p.length r s→iter body (enc p.length s)=some (spec p.length r s):=by
  intro r
  induction r with
  | nil=>
   intro p s h hi
   have:p=l:=by simp [h]
   subst this
   exact zOa (h0 s hi)
  | cons x r ih=>
   intro p s h hi
   rcases h1 p x r s h hi with hb | ⟨s',hb,hs,hi'⟩
   ·exact zOa hb
   ·rw [z9a hb,hs]
    have:=ih (p++ [x]) s' (by simp [h]) (by simpa using hi')
    simpa using this
 rintro _ s rfl hi
 exact key l [] s rfl hi
end
end Go.Proofs.YtjnmamghadpedaaGreatDoor
namespace Go.Proofs.YtjnmamghadpedaaGreatDoor
open Go.RowKit
section
variable {α R O A S:Type}
def z6a (q:Nat→α→Option R):Nat→List α→Option R
 | _, []=> none
 | i,x::r=> match q i x with | some y=> some y | none=> z6a q (i+1) r
theorem kra (l:List α) (q:Nat→α→Option R) (oN:O) (oS:R→O) {body:Int→Option (Step Int O)} (hl:body (l.length:Int)=some (.out oN))
  (hs:∀(i:Nat) x,l[i]? =some x→body (i:Int)=some ((q i x).elim (.cont ((i+1:Nat):Int)) fun r=> .out (oS r))):
  iter body 0=some ((z6a q 0 l).elim oN oS):=by
 have key:∀r p,l=p++r→iter body (p.length:Int)=some ((z6a q p.length r).elim oN oS):=by
  intro r
  induction r with
  | nil=>
     intro p h;have:p=l:=by simp [h]
     subst this;exact zOa hl
  | cons x r ih=>
   intro p h
   have hx:=hs p.length x (by simp [h])
   unfold z6a
   cases hq:q p.length x with
   | some y=> rw [hq] at hx;exact zOa hx
   | none=>
    rw [hq] at hx
    rw [z9a hx]
    have:=ih (p++ [x]) (by simp [h])
    simpa using this
 exact key l [] rfl
theorem Jxa (l:List α) (enc:Int→S→A) (f:Nat→S→α→S) (out:S→O) (Inv:Nat→S→Prop) {body:A→Option (Step A O)}
  (hl:∀s,Inv l.length s→body (enc l.length s)=some (.out (out s)))
  (hs:∀(i:Nat) x s,l[i]? =some x→Inv i s→body (enc i s)=some (.cont (enc ((i+1:Nat):Int) (f i s x)))∧Inv (i+1) (f i s x)) (s:S) (h0:Inv 0 s):
  ∃t,iter body (enc 0 s)=some (out t)∧Inv l.length t∧t=(l.zipIdx.foldl (fun s p=> f p.2 s p.1) s):=by
 have key:∀r p s,l=p++r→Inv p.length s→∃t,iter body (enc (p.length:Int) s)=some (out t)∧Inv l.length t∧t=((r.zipIdx p.length).foldl (fun s p=> f p.2 s p.1) s):=by
  intro r
  induction r with
  | nil=>
    intro p s h hi;have:p=l:=by simp [h]
    subst this;exact ⟨s,zOa (hl s hi),hi,rfl⟩
  | cons x r ih=>
   intro p s h hi
   obtain ⟨h1,h2⟩:=hs p.length x s (by simp [h]) hi
   rw [z9a h1]
   obtain ⟨t,h3,h4,h5⟩:=ih (p++ [x]) (f p.length s x) (by simp [h]) (by simpa using h2)
   refine ⟨t,by simpa using h3,h4, ?_⟩
   rw [h5];simp
 exact key l [] s rfl h0
theorem Wca (f:S→α→S) (l:List α):∀(n:Nat) (s:S),(l.zipIdx n).foldl (fun s p=> f s p.1) s=l.foldl f s:=by
 induction l with
 | nil=> intro n s;rfl
 | cons x r ih=> intro n s;simp [ih]
theorem Wda (l:List α) (enc:Int→S→A) (f:S→α→S) (out:S→O) (Inv:Nat→S→Prop) {body:A→Option (Step A O)}
  (hl:∀s,Inv l.length s→body (enc l.length s)=some (.out (out s)))
  (hs:∀(i:Nat) x s,l[i]? =some x→Inv i s→body (enc i s)=some (.cont (enc ((i+1:Nat):Int) (f s x)))∧Inv (i+1) (f s x)) (s:S) (h0:Inv 0 s):
  iter body (enc 0 s)=some (out (l.foldl f s))∧Inv l.length (l.foldl f s):=by
 obtain ⟨t,h1,h2,h3⟩:=Jxa l enc (fun _=> f) out Inv hl hs s h0
 have:t=l.foldl f s:=by rw [h3];exact Wca f l 0 s
 subst this
 exact ⟨h1,h2⟩
theorem jfa (c:α→Bool) (r:R) (l:List α) (n:Nat):z6a (fun _ x=> if c x then some r else none) n l=if l.any c then some r else none:=by
 induction l generalizing n with
 | nil=> rfl
 | cons x l ih=> unfold z6a;cases h:c x <;> simp [h,ih]
theorem vGa {q:Nat→α→Option R} {l:List α} {n:Nat}:z6a q n l=none↔∀(i:Nat) x,l[i]? =some x→q (n+i) x=none:=by
 induction l generalizing n with
 | nil=> simp [z6a]
 | cons x l ih=>
  unfold z6a
  cases h:q n x with
  | some y=>
   simp only [reduceCtorEq,false_iff]
   intro hh
   have:=hh 0 x rfl
   rw [Nat.add_zero,h] at this;cases this
  | none=>
   rw [ih]
   constructor
   ·intro hh i y hy
    cases i with
    | zero=> simp at hy;subst hy;exact h
    | succ i=> rw [show n+(i+1)=n+1+i by omega];exact hh i y (by simpa using hy)
   ·intro hh i y hy
    rw [show n+1+i=n+(i+1) by omega];exact hh (i+1) y (by simpa using hy)
theorem jOa {q:Nat→α→Option R} {l:List α} {n:Nat} {r:R} (h:z6a q n l=some r):∃(i:Nat) (x:α),l[i]? =some x∧q (n+i) x=some r:=by
 induction l generalizing n with
 | nil=> cases h
 | cons x l ih=>
  unfold z6a at h
  cases hq:q n x with
  | some y=> rw [hq] at h;cases h;exact ⟨0,x,rfl,hq⟩
  | none=>
   rw [hq] at h
   obtain ⟨i,y,h1,h2⟩:=ih h
   exact ⟨i+1,y,by simpa using h1,by rw [show n+(i+1)=n+1+i by omega];exact h2⟩
theorem kTa {l:List α} {i:Nat} {x:α} (h:l[i]? =some x):i < l.length:=(List.getElem?_eq_some_iff.1 h).1
theorem vra {l:List α} {i:Nat} {x:α} (h:l[i]? =some x):decide ((i:Int) < (l.length:Int))=true:=by have:=kTa h;simp;omega
theorem qda (l:List α):decide ((l.length:Int) < (l.length:Int))=false:=by simp
theorem k3a {l:List α} {i:Nat} {x:α} (h:l[i]? =some x):idx l (i:Int)=some x:=by rw [yVa];exact h
end
end Go.Proofs.YtjnmamghadpedaaGreatDoor
namespace Go.Proofs.YtjnmamghadpedaaGreatDoor
open Go.RowKit
theorem KNa {α:Type} (c:α→Bool) (l:List α):∀n:Nat,decide ((0:Int)≤(z6a (fun i x=> if c x then some ((i:Nat):Int) else none) n l).getD (-1))=l.any c:=by
 induction l with
 | nil=> intro n;rfl
 | cons x l ih=>
  intro n
  unfold z6a
  cases hc:c x with
  | true=> simp [hc]
  | false=> simp only [Bool.false_eq_true,if_false,List.any_cons,hc,Bool.false_or];exact ih (n+1)
theorem Vpa (o:Option Int):Sum.elim (fun _=> some (-1)) (fun b=> some b) (o.elim (Sum.inl ()) Sum.inr:Unit ⊕ Int)=some (o.getD (-1)):=by cases o <;> rfl
theorem sc (i:Nat) (h:i < 9223372036854775807):w64 ((i:Int)+1)=((i+1:Nat):Int):=by rw [show ((i:Int)+1)=((i+1:Nat):Int) by omega,w64_n _ (by omega)]
theorem bkL_pos {T:Type} (bk:T→Nat) (l:List T):1≤bkL bk l:=by
 induction l with
 | nil=> simp [bkL]
 | cons y l ih=> unfold bkL;omega
theorem zLb {T:Type} {bk:T→Nat} {l:List T} {x:T} (h:x∈l):bk x+1≤bkL bk l:=by
 induction l with
 | nil=> cases h
 | cons y l ih=>
  unfold bkL
  have hp:=bkL_pos bk l
  rcases List.mem_cons.1 h with rfl | h
  ·omega
  ·have:=ih h;omega
theorem jPa {T:Type} {bk:T→Nat} (hb:∀x,1≤bk x) (l:List T):l.length+1≤bkL bk l:=by
 induction l with
 | nil=> simp [bkL]
 | cons y l ih=> unfold bkL;have:=hb y;simp;omega
section
variable {α:Type}
end
theorem Jya {V:Type} (m:List (Str × V)) (k:Str) (v:V) (x:Str):mget (mput m k v) x=if k==x then some v else mget m x:=by
 induction m with
 | nil=> rfl
 | cons p m ih=>
  obtain ⟨k',v'⟩:=p
  unfold mput
  by_cases h:k' =k
  ·subst h
   simp only [beq_self_eq_true,if_true,mget]
   cases k' ==x <;> simp
  ·have h1:(k' ==k)=false:=by simpa using h
   rw [h1]
   simp only [Bool.false_eq_true,if_false,mget]
   rw [ih]
   by_cases h2:k' =x
   ·subst h2
    have:(k==k')=false:=by simpa using fun h' => h h'.symm
    simp [this]
   ·have:(k' ==x)=false:=by simpa using h2
    rw [this];simp
section
variable {α A S O:Type}
end
end Go.Proofs.YtjnmamghadpedaaGreatDoor
namespace Go.Proofs.YtjnmamghadpedaaGreatDoor
open Go.RowKit
set_option maxHeartbeats 1000000
theorem w2a {u:Nat} (h:u < 10):Lib.decDigits u= [UInt8.ofNat (48+u)]:=by rw [Lib.decDigits,dif_pos h]
theorem decD_big {u:Nat} (h:¬u < 10):Lib.decDigits u=Lib.decDigits (u / 10)++Lib.decDigits (u % 10):=by
 rw [Lib.decDigits,dif_neg h,w2a (show u % 10 < 10 by omega)]
theorem Vqa:∀(k u:Nat),u < 10 ^ (k+1)→(Lib.decDigits u).length≤k+1
 | 0,u,h=> by rw [w2a (by simpa using h)];simp
 | k+1,u,h=> by
  by_cases h10:u < 10
  ·rw [w2a h10];simp
  ·have:=Vqa k (u / 10) (by rw [Nat.pow_succ] at h;omega)
   rw [decD_big h10,w2a (show u % 10 < 10 by omega)]
   simp;omega
theorem KOa (u:Nat) (h:u≤9223372036854775807):kEa (u:Int)=some (Lib.decDigits u):=by
 unfold kEa
 rw [if_pos (by omega),Lib.itoa_nonneg]
end Go.Proofs.YtjnmamghadpedaaGreatDoor
namespace Go.Proofs.YtjnmamghadpedaaGreatDoor
open Go.RowKit
set_option maxHeartbeats 1000000
def Yga (c:UInt8):Bool:=(decide (97≤c) && decide (c≤122)) || (decide (65≤c) && decide (c≤90)) || (decide (48≤c) && decide (c≤57))
def Z4a (c:UInt8):Bool:=(decide (97≤c) && decide (c≤122)) || (decide (48≤c) && decide (c≤57)) || c==45 || c==46
def Yha (c:UInt8):Bool:=Yga c || c==45 || c==95 || c==46 || c==43 || c==61
def QMa:Bool→Str→Bool
 | p, []=> !p
 | p,c::r=> if c=46 then !p && QMa true r else QMa false r
def domP (s:Str):Bool:=decide (s.length≤60) && s.all Z4a && QMa true s
def atP (s:Str):Nat:=s.findIdx (· ==64)
def vXa (s:Str):Bool:=decide (atP s < s.length) && decide (1≤atP s) && decide (atP s≤60) && (s.take (atP s)).all Yha && domP (s.drop (atP s+1))
theorem KPa (k:Nat) (c:UInt8) (hk:OfNat.ofNat k < 256):decide ((no_index (OfNat.ofNat k:Int))≤(c.toNat:Int))=decide ((OfNat.ofNat k:UInt8)≤c):=by
 have e:(OfNat.ofNat k:Int)=((OfNat.ofNat k:Nat):Int):=rfl
 have h2:(OfNat.ofNat k:UInt8).toNat=(OfNat.ofNat k:Nat):=by
  show (UInt8.ofNat k).toNat=k
  rw [UInt8.toNat_ofNat'];exact Nat.mod_eq_of_lt hk
 rw [Bool.eq_iff_iff,decide_eq_true_eq,decide_eq_true_eq,UInt8.le_iff_toNat_le,h2,e];omega
theorem KQa (k:Nat) (c:UInt8) (hk:OfNat.ofNat k < 256):decide ((c.toNat:Int)≤(no_index (OfNat.ofNat k:Int)))=decide (c≤(OfNat.ofNat k:UInt8)):=by
 have e:(OfNat.ofNat k:Int)=((OfNat.ofNat k:Nat):Int):=rfl
 have h2:(OfNat.ofNat k:UInt8).toNat=(OfNat.ofNat k:Nat):=by
  show (UInt8.ofNat k).toNat=k
  rw [UInt8.toNat_ofNat'];exact Nat.mod_eq_of_lt hk
 rw [Bool.eq_iff_iff,decide_eq_true_eq,decide_eq_true_eq,UInt8.le_iff_toNat_le,h2,e];omega
theorem yWa (c:UInt8):q9a c=some (Yga c):=by
 unfold q9a Yga
 simp only [KPa 97 c (by decide),KQa 122 c (by decide),KPa 65 c (by decide),KQa 90 c (by decide),KPa 48 c (by decide),KQa 57 c (by decide)]
 cases decide ((97:UInt8)≤c) <;> cases decide (c≤122) <;> cases decide ((65:UInt8)≤c) <;> cases decide (c≤90) <;> cases decide ((48:UInt8)≤c) <;> cases decide (c≤57) <;> rfl
theorem Vra (s:Str):∀p,QMa p s=(!(p && (s.isEmpty || s.head? ==some 46)) && !(s.getLast? ==some 46) && !Lib.contains s [46,46]):=by
 induction s with
 | nil=> intro p;cases p <;> simp [QMa,Lib.contains,Lib.index]
 | cons c r ih=>
  intro p
  have hcont:Lib.contains (c::r) [46,46]=((c==46 && r.head? ==some 46) || Lib.contains r [46,46]):=by
   unfold Lib.contains
   rw [Lib.index]
   have hpre:([46,46]:List UInt8).isPrefixOf (c::r)=(c==46 && r.head? ==some 46):=by
    cases r with
    | nil=> simp [List.isPrefixOf]
    | cons d r=> simp only [List.isPrefixOf,List.head?_cons,Bool.and_true];rw [Bool.eq_iff_iff];simp;constructor <;> rintro ⟨rfl,rfl⟩ <;> exact ⟨rfl,rfl⟩
   rw [hpre]
   have hg:=Lib.index_ge r [46,46]
   cases c==46 && r.head? ==some 46 with
   | true=> simp
   | false=>
    simp only [Bool.false_eq_true,if_false,Bool.false_or]
    by_cases h:Lib.index r [46,46]= -1
    ·simp [h]
    ·have:(Lib.index r [46,46]== -1)=false:=by simpa using h
     rw [this]
     simp only [Bool.false_eq_true,if_false]
     rw [Bool.eq_iff_iff];simp;omega
  rw [hcont,QMa]
  have hlast:(c::r).getLast? =if r.isEmpty then some c else r.getLast? :=by cases r <;> simp
  rw [hlast]
  by_cases hc:c=46
  ·subst hc
   rw [if_pos rfl,ih true]
   cases r with
   | nil=> simp
   | cons d r=> cases p <;> cases hd:(d==46) <;> simp_all [Bool.and_comm,Bool.and_assoc,Bool.and_left_comm]
  ·have h1:(c==46)=false:=by simpa using hc
   have h2:(some c==some (46:UInt8))=false:=by simpa using hc
   rw [if_neg hc,ih false]
   cases r with
   | nil=> simp [h1,h2,Lib.contains,Lib.index,hc]
   | cons d r=> simp [h1,h2,hc]
theorem jka (s t:Str):kma s t=some (t.isPrefixOf s):=by
 unfold kma z1a
 by_cases h:t.length≤s.length
 ·have:decide ((t.length:Int)≤(s.length:Int))=true:=by simp;omega
  rw [this,QLa h]
  simp only [cond_true,Option.bind_some,Option.some.injEq]
  rw [Bool.eq_iff_iff,beq_iff_eq,List.isPrefixOf_iff_prefix,List.prefix_iff_eq_take]
  constructor <;> exact fun h=> h.symm
 ·have:decide ((t.length:Int)≤(s.length:Int))=false:=by simp;omega
  rw [this]
  simp only [cond_false,Option.bind_some,Option.some.injEq]
  symm
  rw [Bool.eq_false_iff]
  intro hp
  exact h (List.isPrefixOf_iff_prefix.1 hp).length_le
theorem jla (s t:Str) (hs:s.length≤9223372036854775806):kna s t=some (t.isSuffixOf s):=by
 unfold kna z2a
 by_cases h:t.length≤s.length
 ·have:decide ((t.length:Int)≤(s.length:Int))=true:=by simp;omega
  rw [this,w64_ns _ _ h (by omega),jya (by omega)]
  simp only [cond_true,Option.bind_some,Option.some.injEq]
  rw [Bool.eq_iff_iff,beq_iff_eq,List.isSuffixOf_iff_suffix,List.suffix_iff_eq_drop]
  constructor <;> exact fun h=> h.symm
 ·have:decide ((t.length:Int)≤(s.length:Int))=false:=by simp;omega
  rw [this]
  simp only [cond_false,Option.bind_some,Option.some.injEq]
  symm
  rw [Bool.eq_false_iff]
  intro hp
  exact h (List.isSuffixOf_iff_suffix.1 hp).length_le
theorem dom_char (c:UInt8):((bif decide ((97:UInt8)≤c) then (bif decide (c≤122) then some true else (bif decide ((48:UInt8)≤c) then (bif decide (c≤57) then some true else (bif (c==45) then some true else some (c==46))) else (bif (c==45) then some true else some (c==46)))) else (bif decide ((48:UInt8)≤c) then (bif decide (c≤57) then some true else (bif (c==45) then some true else some (c==46))) else (bif (c==45) then some true else some (c==46)))):Option Bool)=some (Z4a c):=by
 unfold Z4a
 cases decide ((97:UInt8)≤c) <;> cases decide (c≤122) <;> cases decide ((48:UInt8)≤c) <;> cases decide (c≤57) <;> cases (c==45) <;> rfl
theorem Zia (s:Str) (hs:s.length < 4294967281):qxa s=some (domP s):=by
 have hloop:iter (kPa s) 0=some ((z6a (fun _ c=> if !Z4a c then some () else none) 0 s).elim (.inl ()) .inr):=by
  refine kra s _ (Sum.inl ()) Sum.inr ?_ ?_
  ·unfold kPa;rw [qda];rfl
  ·intro i c hc
   have hi:=kTa hc
   unfold kPa
   rw [vra hc,k3a hc]
   simp only [cond_true,Option.bind_some,Kea c 45 (by decide),Kea c 46 (by decide),KPa 97 c (by decide),KQa 122 c (by decide),KPa 48 c (by decide),KQa 57 c (by decide),dom_char]
   rw [show ((i:Int)+1)=((i+1:Nat):Int) by omega,w64_n _ (by omega)]
   cases Z4a c <;> rfl
 unfold qxa domP
 rw [hloop,jfa,Vra]
 by_cases hn:s= []
 ·subst hn;simp
 ·have h1:(s !=([]:Str))=true:=by simpa using hn
  rw [h1]
  simp only [cond_true]
  by_cases hl:s.length≤60
  ·have h2:decide ((s.length:Int)≤60)=true:=by simp;omega
   rw [h2]
   have hall:s.any (fun c=> !Z4a c)= !(s.all Z4a):=by simp [List.not_all_eq_any_not]
   rw [hall]
   cases hg:s.all Z4a with
   | false=> simp [hl]
   | true=>
    simp only [Bool.not_true,Bool.false_eq_true,if_false,Option.elim,Option.bind_some,cond_true,jka,jla s [46] (by omega),kwa,if_pos hs]
    have hp:([46]:Str).isPrefixOf s=(s.head? ==some 46):=by
     cases s with
     | nil=> rfl
     | cons d r=> simp only [List.isPrefixOf,List.head?_cons,Bool.and_true];rw [Bool.eq_iff_iff];simp;exact ⟨fun h=> h.symm,fun h=> h.symm⟩
    have hsf:([46]:Str).isSuffixOf s=(s.getLast? ==some 46):=by
     rw [Bool.eq_iff_iff,List.isSuffixOf_iff_suffix,beq_iff_eq]
     constructor
     ·rintro ⟨t,rfl⟩;simp
     ·intro h
      obtain ⟨ys,rfl⟩:=List.getLast?_eq_some_iff.1 h
      exact ⟨ys,rfl⟩
    have he:s.isEmpty=false:=by simpa using hn
    rw [hp,hsf,he]
    cases s.head? ==some 46 <;> cases s.getLast? ==some 46 <;> cases Lib.contains s [46,46] <;> simp [hl]
  ·have h2:decide ((s.length:Int)≤60)=false:=by simp;omega
   rw [h2];simp [hl]
theorem Vsa (s:Str):Lib.index s [64]=if atP s < s.length then (atP s:Int) else -1:=by
 rw [Lib.index_one]
 unfold atP
 induction s with
 | nil=> rfl
 | cons c r ih=>
  rw [Lib.indexByte,List.findIdx_cons]
  cases hc:(c==64) with
  | true=> simp
  | false=>
   simp only [Bool.false_eq_true,if_false,cond_false,List.length_cons]
   rw [ih]
   by_cases h:r.findIdx (· ==64) < r.length
   ·simp only [if_pos h,if_pos (show r.findIdx (· ==64)+1 < r.length+1 by omega)]
    have:(((r.findIdx (· ==64):Nat):Int)== -1)=false:=by rw [beq_eq_false_iff_ne];omega
    rw [this];simp
   ·simp only [if_neg h,if_neg (show ¬(r.findIdx (· ==64)+1 < r.length+1) by omega)];simp
theorem cut_at (s:Str):Lib.cut s [64]=if atP s < s.length then (s.take (atP s),s.drop (atP s+1),true) else (s, [],false):=by
 unfold Lib.cut
 rw [Vsa]
 by_cases h:atP s < s.length
 ·rw [if_pos h,if_pos h,if_pos (by omega)];simp
 ·rw [if_neg h,if_neg h,if_neg (by omega)]
def YOa (s:Str):Str × Str × Bool:=if atP s < s.length then (s.take (atP s),s.drop (atP s+1),vXa s) else (s, [],false)
theorem zMb (c:UInt8):(Yga c || decide (0≤Lib.indexByte [45,95,46,43,61] c))=Yha c:=by
 unfold Yha
 by_cases h1:c=45
 ·subst h1;decide
 by_cases h2:c=95
 ·subst h2;decide
 by_cases h3:c=46
 ·subst h3;decide
 by_cases h4:c=43
 ·subst h4;decide
 by_cases h5:c=61
 ·subst h5;decide
 rw [beq_eq_false_iff_ne.2 h1,beq_eq_false_iff_ne.2 h2,beq_eq_false_iff_ne.2 h3,beq_eq_false_iff_ne.2 h4,beq_eq_false_iff_ne.2 h5]
 simp [Lib.indexByte,Ne.symm h1,Ne.symm h2,Ne.symm h3,Ne.symm h4,Ne.symm h5]
theorem ZKa (s:Str) (hs:s.length < 4294967281):qQa s=some (YOa s):=by
 have hloop:∀v:Str × Str × Bool,v.1.length < 4294967281→iter (k0a v) 0=some ((z6a (fun _ c=> if !Yha c then some () else none) 0 v.1).elim (.inl ()) .inr):=by
  intro v hv
  refine kra v.1 _ (Sum.inl ()) Sum.inr ?_ ?_
  ·unfold k0a;rw [qda];rfl
  ·intro i c hc
   have hi:=kTa hc
   unfold k0a
   rw [vra hc,k3a hc]
   simp only [cond_true,Option.bind_some,yWa,zMa]
   rw [show ((i:Int)+1)=((i+1:Nat):Int) by omega,w64_n _ (by omega)]
   have hg:=zMb c
   cases hl:Yga c with
   | true=> rw [hl] at hg;simp only [Bool.true_or] at hg;rw [←hg];rfl
   | false=> rw [hl] at hg;simp only [Bool.false_or] at hg;rw [←hg];cases decide (0≤Lib.indexByte [45,95,46,43,61] c) <;> rfl
 unfold qQa q4a
 rw [if_pos hs,cut_at]
 simp only [Option.bind_some]
 unfold YOa
 by_cases h:atP s < s.length
 ·simp only [if_pos h,cond_true]
  rw [hloop _ (by simp;omega),jfa]
  have hall:(s.take (atP s)).any (fun c=> !Yha c)= !((s.take (atP s)).all Yha):=by simp [List.not_all_eq_any_not]
  simp only [hall]
  have hlen:(s.take (atP s)).length=atP s:=by simp;omega
  rw [hlen,Zia _ (by simp;omega)]
  unfold vXa
  by_cases h0:atP s=0
  ·simp [h0]
  ·have hne:(s.take (atP s) !=([]:Str))=true:=by
    simp only [bne_iff_ne,ne_eq]
    intro hx
    have:=congrArg List.length hx
    rw [hlen] at this;simp at this;omega
   rw [hne]
   by_cases h60:atP s≤60
   ·have e:decide ((atP s:Int)≤60)=true:=by simp;omega
    rw [e]
    cases (s.take (atP s)).all Yha <;> simp [h,h60] <;> omega
   ·have e:decide ((atP s:Int)≤60)=false:=by simp;omega
    rw [e];simp [h60]
 ·simp [if_neg h]
theorem Yia (s:Str):(YOa s).2.2=vXa s:=by
 unfold YOa
 by_cases h:atP s < s.length
 ·rw [if_pos h]
 ·rw [if_neg h];unfold vXa;simp [h]
theorem q6a (s:Str) (hs:s.length < 4294967281):kxa s=some (vXa s):=by
 unfold kxa;rw [ZKa s hs];simp [Yia]
end Go.Proofs.YtjnmamghadpedaaGreatDoor
namespace Go.Proofs.YtjnmamghadpedaaGreatDoor
open Go.RowKit
theorem jza (o:Option Unit) (a b:Bool):Sum.elim (fun _=> some a) (fun _=> some b) (o.elim (Sum.inl ()) Sum.inr:Unit ⊕ Unit)=some (bif o.isSome then b else a):=by cases o <;> rfl
theorem Zja {α R:Type} (c:α→Bool) (r:R) (l:List α) (n:Nat):(z6a (fun _ x=> if c x then some r else none) n l).isSome=l.any c:=by
 rw [jfa];cases l.any c <;> rfl
theorem Yja {α:Type} (l:List α) (p:α→Bool):l.any (fun x=> !p x)= !l.all p:=by simp [List.not_all_eq_any_not]
theorem zza (a b:Int):zpa a b=some ⟨a,b⟩:=rfl
theorem zPa:zQa=some ⟨0,0⟩:=rfl
theorem z5a (f:zsa):z0a f=some (f.Code !=0):=rfl
theorem ZLa (o:Option zsa) (f:zsa):Sum.elim (fun _=> some f) (fun b=> some b) (o.elim (Sum.inl ()) Sum.inr:Unit ⊕ zsa)=some (o.getD f):=by cases o <;> rfl
end Go.Proofs.YtjnmamghadpedaaGreatDoor
namespace Go.Proofs.YtjnmamghadpedaaGreatDoor
open Go.RowKit
set_option maxHeartbeats 1000000
def nameC (c:UInt8):Bool:=Yga c || c==45 || c==95 || c==46
def yXa (s:Str):Bool:=decide (1≤s.length) && decide (s.length≤60) && s.all nameC
theorem KRa {s:Str} (h:yXa s=true):1≤s.length∧s.length≤60:=by
 unfold yXa at h
 simp only [Bool.and_eq_true,decide_eq_true_eq] at h
 exact ⟨h.1.1,h.1.2⟩
theorem yma (s:Str) (hs:s.length≤1048576):vEa s=some (yXa s):=by
 have hloop:iter (vma s) 0=some ((z6a (fun _ c=> if !nameC c then some () else none) 0 s).elim (.inl ()) .inr):=by
  refine kra s _ (Sum.inl ()) Sum.inr ?_ ?_
  ·unfold vma;rw [qda];rfl
  ·intro i c hc
   have hi:=kTa hc
   unfold vma
   rw [vra hc,k3a hc]
   simp only [cond_true,Option.bind_some,yWa,Kea c 45 (by decide),Kea c 95 (by decide),Kea c 46 (by decide),sc i (by omega)]
   unfold nameC
   cases Yga c <;> cases (c==45) <;> cases (c==95) <;> cases (c==46) <;> rfl
 unfold vEa yXa
 rw [hloop]
 simp only [Option.bind_some,jza,Zja,Yja]
 by_cases hn:s= []
 ·subst hn;rfl
 ·have h1:(s !=([]:Str))=true:=by simpa using hn
  have h2:decide (1≤s.length)=true:=by have:=List.length_pos_iff.2 hn;simp;omega
  have e2:decide ((s.length:Int)≤60)=decide (s.length≤60):=by rw [Bool.eq_iff_iff];simp;omega
  rw [h1,h2,e2]
  cases decide (s.length≤60) <;> cases s.all nameC <;> rfl
def yYa (n:Int):Bool:=decide (0≤n) && decide (n≤7)
def recQ (l:List zca) (i:Nat) (r:zca):Option zsa:=
 if !vXa r.Address then some ⟨10,i⟩ else if !yYa r.Notify then some ⟨3,i⟩ else if (l.take i).any (fun x=> x.Address==r.Address) then some ⟨7,i⟩ else none
def recF (l:List zca):zsa:=(z6a (recQ l) 0 l).getD ⟨0,0⟩
def fromB (s:Str):Bool:=s !=([]:Str) && !vXa s
def envF (e:zFa):zsa:=if fromB e.From then ⟨10, -10⟩ else if decide (e.To.length < 1) || decide (60 < e.To.length) then ⟨2, -11⟩ else if e.Id !=([]:Str) && !yXa e.Id then ⟨10, -12⟩ else recF e.To
def smallR (l:List zca):Prop:=l.length≤1048576∧∀a∈l,a.Address.length≤1048576
def Zka (e:zFa):Prop:=e.From.length≤1048576∧e.Id.length≤1048576∧smallR e.To
theorem wIa (n:Int):k1a n=some (yYa n):=by unfold k1a yYa;cases decide (0≤n) <;> rfl
theorem any_take (l:List zca) (i:Nat) (s:Str) (hl:l.length≤1048576):decide ((0:Int)≤(z6a (fun i x=> if x.Address==s then some ((i:Nat):Int) else none) 0 (l.take i)).getD (-1))=(l.take i).any (fun x=> x.Address==s):=KNa (fun x=> x.Address==s) (l.take i) 0
theorem yza (l:List zca) (h:smallR l):kIa l=some (recF l):=by
 obtain ⟨h3,h4⟩:=h
 unfold kIa recF
 rw [kra l (recQ l) (.inl ()) .inr]
 ·simp only [Option.bind_some,zPa,ZLa]
 ·unfold kJa;rw [qda];rfl
 ·intro i r hr
  have hi:=kTa hr
  have ha:=h4 r (List.mem_of_getElem? hr)
  have hl2:iter (kja r (l.take i)) 0=some ((z6a (fun i x=> if x.Address==r.Address then some ((i:Nat):Int) else none) 0 (l.take i)).elim (.inl ()) .inr):=by
   refine kra (l.take i) _ (Sum.inl ()) Sum.inr ?_ ?_
   ·unfold kja;rw [qda];rfl
   ·intro k x hx
    have hk:=kTa hx
    simp at hk
    unfold kja
    rw [vra hx,k3a hx]
    simp only [cond_true,Option.bind_some,sc k (by omega)]
    cases x.Address==r.Address <;> rfl
  unfold kJa recQ
  rw [vra hr,k3a hr]
  simp only [cond_true,Option.bind_some,q6a _ (show r.Address.length < 4294967281 by omega),zza,wIa,QLa (Nat.le_of_lt hi),hl2,Vpa,any_take _ _ _ h3,sc i (by omega)]
  cases vXa r.Address <;> cases yYa r.Notify <;> cases (l.take i).any (fun x=> x.Address==r.Address) <;> rfl
theorem jma (e:zFa) (h:Zka e):k2a e=some (envF e):=by
 obtain ⟨h1,h2,h3⟩:=h
 unfold k2a envF
 rw [q6a _ (by omega),yma _ h2,yza _ h3]
 have e1:decide ((e.To.length:Int) < 1)=decide (e.To.length < 1):=by generalize e.To.length=n;rw [Bool.eq_iff_iff];simp;omega
 have e2:decide ((60:Int) < (e.To.length:Int))=decide (60 < e.To.length):=by rw [Bool.eq_iff_iff];simp;omega
 simp only [Option.bind_some,zza,e1,e2]
 unfold fromB
 cases e.From !=([]:Str) <;> cases vXa e.From <;> cases decide (e.To.length < 1) <;> cases decide (60 < e.To.length) <;> cases e.Id !=([]:Str) <;> cases yXa e.Id <;> rfl
theorem zNb {e:zFa} (h:zFa.bk e≤1048576):Zka e:=by
 unfold zFa.bk at h
 dsimp only at h
 refine ⟨by omega,by omega, ?_,fun a ha=> ?_⟩
 ·have:=jPa (bk:=zca.bk) (fun x=> by unfold zca.bk;omega) e.To;omega
 ·have h5:=zLb (bk:=zca.bk) ha;have h6:zca.bk a=a.Address.length+1+1+1:=rfl;omega
end Go.Proofs.YtjnmamghadpedaaGreatDoor
namespace Go.Proofs.YtjnmamghadpedaaGreatDoor
open Go.RowKit
set_option maxHeartbeats 1000000
end Go.Proofs.YtjnmamghadpedaaGreatDoor
namespace Go.Proofs.YtjnmamghadpedaaGreatDoor
open Go.RowKit
set_option maxHeartbeats 1000000
end Go.Proofs.YtjnmamghadpedaaGreatDoor
namespace Go.Proofs.YtjnmamghadpedaaGreatDoor
open Go.RowKit
set_option maxHeartbeats 1000000
def add1 (o:List Str) (x:Str):List Str:=if o.contains x then o else o++ [x]
def QNa (o xs:List Str):List Str:=xs.foldl add1 o
theorem add1_mem (o:List Str) (x y:Str):y∈add1 o x↔y∈o∨y=x:=by
 unfold add1
 split
 ·rename_i h
  simp at h
  constructor
  ·exact .inl
  ·rintro (h1 | rfl)
   ·exact h1
   ·exact h
 ·simp
theorem Yka (o:List Str) (x:Str):o <+:add1 o x:=by
 unfold add1;split
 ·exact List.prefix_refl _
 ·exact List.prefix_append _ _
theorem Jza {o:List Str} (h:o.Nodup) (x:Str):(add1 o x).Nodup:=by
 unfold add1;split
 ·exact h
 ·rename_i hx
  simp at hx
  rw [List.nodup_append]
  exact ⟨h,by simp,fun a ha b hb hab=> by simp at hb;subst hb;subst hab;exact hx ha⟩
theorem JAa (xs:List Str):∀(o:List Str) (y:Str),y∈QNa o xs↔y∈o∨y∈xs:=by
 induction xs with
 | nil=> intro o y;simp [QNa]
 | cons x xs ih=> intro o y;show y∈QNa (add1 o x) xs↔_;rw [ih,add1_mem];simp [or_assoc]
theorem Vta (xs:List Str):∀o:List Str,o <+:QNa o xs:=by
 induction xs with
 | nil=> intro o;exact List.prefix_refl _
 | cons x xs ih=> intro o;exact (Yka o x).trans (ih _)
theorem Wea (xs:List Str):∀{o:List Str},o.Nodup→(QNa o xs).Nodup:=by
 induction xs with
 | nil=> intro o h;exact h
 | cons x xs ih=> intro o h;exact ih (Jza h x)
theorem nodup_le {l m:List Str} (hl:l.Nodup) (h:∀x∈l,x∈m):l.length≤m.length:=by
 induction l generalizing m with
 | nil=> simp
 | cons x l ih=>
  have hx:x∈m:=h x (by simp)
  obtain ⟨hxl,hl'⟩:=List.nodup_cons.1 hl
  have:=ih (m:=m.erase x) hl' (fun y hy=> by
   have hne:y≠x:=by rintro rfl;exact hxl hy
   exact (List.mem_erase_of_ne hne).2 (h y (by simp [hy])))
  rw [List.length_erase_of_mem hx] at this
  have:0 < m.length:=List.length_pos_of_mem hx
  simp;omega
def tgtO (l:List wEa) (s:Str):Option (List Str):=(l.find? (fun a=> a.Address==s)).map (·.To)
def tgt (l:List wEa) (s:Str):List Str:=(tgtO l s).getD []
def univ (l:List wEa) (from_:List Str):List Str:=from_++l.flatMap (·.To)
theorem tgt_sub (l:List wEa) (s x:Str) (h:x∈tgt l s):∃a∈l,a.Address=s∧x∈a.To:=by
 unfold tgt tgtO at h
 cases hf:l.find? (fun a=> a.Address==s) with
 | none=> rw [hf] at h;simp at h
 | some a=>
  rw [hf] at h
  have:=List.find?_some hf
  exact ⟨a,List.mem_of_find?_eq_some hf,by simpa using this,by simpa using h⟩
structure Inv (l:List wEa) (U:List Str) (k:Nat) (out:List Str):Prop where
 nd:out.Nodup
 sub:∀x∈out,x∈U
 le:k≤out.length
theorem Inv.len {l:List wEa} {U:List Str} {k:Nat} {out:List Str} (h:Inv l U k out):out.length≤U.length:=nodup_le h.nd h.sub
theorem Inv.step {l:List wEa} {from_:List Str} {k:Nat} {out:List Str} (h:Inv l (univ l from_) k out) {s:Str} (hs:out[k]? =some s):Inv l (univ l from_) (k+1) (QNa out (tgt l s)):=by
 refine ⟨Wea _ h.nd,fun x hx=> ?_, ?_⟩
 ·rcases (JAa _ _ _).1 hx with h1 | h1
  ·exact h.sub x h1
  ·obtain ⟨a,ha,_,hxa⟩:=tgt_sub l s x h1
   exact List.mem_append.2 (.inr (List.mem_flatMap.2 ⟨a,ha,hxa⟩))
 ·have:=(Vta (tgt l s) out).length_le
  have:=kTa hs
  omega
end Go.Proofs.YtjnmamghadpedaaGreatDoor
namespace Go.Proofs.YtjnmamghadpedaaGreatDoor
open Go.RowKit
set_option maxHeartbeats 1000000
end Go.Proofs.YtjnmamghadpedaaGreatDoor
namespace Go.Proofs.YtjnmamghadpedaaGreatDoor
open Go.RowKit
set_option maxHeartbeats 1000000
end Go.Proofs.YtjnmamghadpedaaGreatDoor
namespace Go.Proofs.YtjnmamghadpedaaGreatDoor
open Go.RowKit
theorem Vua (s:Str) (i:Nat) (h:i < s.length):(strB s)[i]'(by rw [zXa];exact h)=s[i]:=rfl
theorem zOb (s:Str) (i:Nat) (h:i < s.length):(strB s).get! i=s[i]:=by
 have:=get_at (strB s) i (by rw [zXa];exact h)
 rw [Nat.add_zero] at this
 rw [this];rfl
theorem QOa {s:Str} {i:Nat} {c:UInt8} (h:s[i]? =some c) (hc:c.toNat < 128):jua s i=(c.toNat:Int)∧wWa s i=1:=by
 have hi:=kTa h
 have e:s[i]=c:=by rw [List.getElem?_eq_getElem hi] at h;exact Option.some.inj h
 have hd:=decode_ascii (strB s) i (by rw [zXa];exact hi) (by rw [Vua s i hi,e];exact hc)
 unfold jua wWa
 rw [hd,Vua s i hi,e]
 exact ⟨rfl,rfl⟩
theorem zPb {s:Str} {i:Nat} {c:UInt8} (h:s[i]? =some c) (hc:128≤c.toNat):128≤jua s i∧jua s i≤2147483647∧1≤wWa s i:=by
 have hi:=kTa h
 have e:s[i]=c:=by rw [List.getElem?_eq_getElem hi] at h;exact Option.some.inj h
 have hd:=decode_high (strB s) i (by rw [zXa];exact hi) (by rw [Vua s i hi,e];exact hc)
 have hl:=decode_le (strB s) i
 unfold jua wWa
 exact ⟨by omega,by omega,hd.2⟩
theorem Yla (s:ByteArray) (pos:Nat):∀k,1≤k→k < (Utf8.decode s pos).2→(s.get! (pos+k)).toNat / 64=2:=by
 intro k h1 h2
 simp only [Utf8.decode] at h2
 repeat' split at h2
 all_goals first
  | (exfalso;simp at h2;omega)
  | (
   rename_i hq _
   simp only [Bool.and_eq_true,decide_eq_true_eq,beq_iff_eq] at hq
   have h2:k < 2:=h2
   obtain rfl:k=1:=by omega
   exact hq.2.2)
  | (
   rename_i hq _
   simp only [Bool.and_eq_true,decide_eq_true_eq,beq_iff_eq] at hq
   have h2:k < 3:=h2
   have:k=1∨k=2:=by omega
   rcases this with rfl | rfl
   ·exact hq.1.2.2
   ·exact hq.2.2)
  | (
   rename_i hq _
   simp only [Bool.and_eq_true,decide_eq_true_eq,beq_iff_eq] at hq
   have h2:k < 4:=h2
   have:k=1∨k=2∨k=3:=by omega
   rcases this with rfl | rfl | rfl
   ·exact hq.1.1.2.2
   ·exact hq.1.2.2
   ·exact hq.2.2)
theorem zQb {s:Str} {i j:Nat} {c d:UInt8} (h:s[i]? =some c) (hc:128≤c.toNat) (h1:i≤j) (h2:j < i+wWa s i) (hj:s[j]? =some d):128≤d.toNat:=by
 by_cases e:j=i
 ·subst e;rw [h] at hj;cases hj;exact hc
 ·have hjl:=kTa hj
  have e2:s[j]=d:=by rw [List.getElem?_eq_getElem hjl] at hj;exact Option.some.inj hj
  have:=Yla (strB s) i (j - i) (by omega) (by unfold wWa at h2;omega)
  rw [show i+(j - i)=j by omega,zOb s j hjl,e2] at this
  omega
theorem toU8_nat (c:UInt8):toU8 (c.toNat:Int)=c:=by
 unfold toU8
 have:=c.toNat_lt
 rw [show ((c.toNat:Int) % 256).toNat=c.toNat by omega]
 simp
theorem QPa {t:Str} (h:QJa t=true) {c:UInt8} (hc:c∈t):c.toNat < 128:=by
 unfold QJa at h
 rw [List.all_eq_true] at h
 simpa using h c hc
theorem JBa {r:Int} (h:128≤r):∃m x,1≤m∧m≤3∧(vNa r).length=m+1∧(vNa r)[m]? =some x∧128≤x.toNat:=by
 unfold vNa
 simp only [Utf8.encode]
 have hc:128≤(if Utf8.valid r=true then r.toNat else Utf8.runeError):=by
  split
  ·omega
  ·decide
 generalize (if Utf8.valid r=true then r.toNat else Utf8.runeError)=c at hc
 have hb:∀n:Nat,128≤(UInt8.ofNat (128+n % 64)).toNat:=by
  intro n
  rw [UInt8.toNat_ofNat']
  have:(128+n % 64) % 2 ^ 8=128+n % 64:=Nat.mod_eq_of_lt (by omega)
  rw [this];omega
 rw [if_neg (by omega)]
 split
 ·exact ⟨1,_,by omega,by omega,rfl,rfl,hb c⟩
 ·split
  ·exact ⟨2,_,by omega,by omega,rfl,rfl,hb c⟩
  ·exact ⟨3,_,by omega,by omega,rfl,rfl,hb c⟩
theorem Qla {t:Str} (h:∀c∈t,c.toNat < 128) {x:UInt8} (hx:128≤x.toNat):Lib.indexByte t x= -1:=by
 have hc:=Lib.contains_iff_indexByte t x
 have hn:t.contains x=false:=by
  rw [Bool.eq_false_iff]
  intro hm
  have:=h x (by simpa using hm)
  omega
 rw [hn] at hc
 have hge:=Lib.indexByte_ge t x
 have:=of_decide_eq_false hc.symm
 omega
theorem KSa (t:Str) (c:UInt8) (hc:c.toNat < 128):kba t (c.toNat:Int)=some (Lib.indexByte t c):=by
 unfold kba
 have h1:decide ((0:Int)≤(c.toNat:Int))=true:=by simp
 have h2:decide ((c.toNat:Int) < 128)=true:=by simp;omega
 rw [h1,h2]
 simp only [cond_true,Option.bind_some,toU8_nat]
 rfl
theorem Qma (t:Str) (r:Int) (hr:128≤r) (ht:∀c∈t,c.toNat < 128) (hl:t.length≤4294967281):kba t r=some (-1):=by
 unfold kba
 have h1:decide ((0:Int)≤r)=true:=by simp;omega
 have h2:decide (r < 128)=false:=by simp;omega
 rw [h1,h2]
 simp only [cond_true,cond_false,Option.bind_some]
 cases hq:r==65533 with
 | true=>
  simp only [cond_true]
  obtain ⟨o,ho,rfl⟩:=Voa (body:=kUa t) (fun i=> i≤t.length) (fun i=> t.length - i) (fun _ o=> o= .inl ()) (fun i hi=> by
   unfold kUa
   by_cases hlt:i < t.length
   ·right
    have hg:t[i]? =some t[i]:=List.getElem?_eq_getElem hlt
    have hc:=ht t[i] (List.getElem_mem hlt)
    obtain ⟨e1,e2⟩:=QOa hg hc
    rw [e1,e2,decide_eq_true hlt]
    have hne:((t[i].toNat:Int)==65533)=false:=by rw [beq_eq_false_iff_ne];omega
    rw [hne]
    exact ⟨i+1,rfl,by omega,by omega,fun _ h=> h⟩
   ·left
    rw [decide_eq_false hlt]
    exact ⟨.inl (),rfl,rfl⟩) 0 (Nat.zero_le _)
  rw [ho];rfl
 | false=>
  simp only [cond_false]
  have hv:∃b,kia r=some b:=by
   unfold kia
   cases decide (0≤r) <;> cases decide (r < 55296) <;> cases decide (57343 < r) <;> cases decide (r≤1114111) <;> exact ⟨_,rfl⟩
  obtain ⟨b,hb⟩:=hv
  rw [hb]
  simp only [Option.bind_some]
  cases b with
  | false=> rfl
  | true=>
   simp only [Bool.not_true,cond_false]
   obtain ⟨m,x,hm1,hm3,hlen,hx,hx128⟩:=JBa hr
   have hst:w64 (((vNa r).length:Int) - 1)=(m:Int):=by rw [hlen,qfa (by omega) (by omega)];omega
   rw [hst]
   have hbody:∃o,kWa t r (m:Int)=some (.out o)∧(o= .inl ()∨o= .inr (-1)):=by
    unfold kWa
    by_cases hlt:m < t.length
    ·have hd:decide ((m:Int) < (t.length:Int))=true:=by simp;omega
     have hc:=ht t[m] (List.getElem_mem hlt)
     rw [hd,hst,YMa hlt,k3a hx]
     have hne:((t[m].toNat:Int) !=(x.toNat:Int))=true:=by simp;omega
     simp only [cond_true,Option.bind_some,hne]
     rw [show (m:Int)+1=((m+1:Nat):Int) by omega,w64_n _ (by omega),jya (by omega)]
     simp only [Option.bind_some]
     have hib:zMa (t.drop (m+1)) x=some (-1):=by
      show some (Lib.indexByte (t.drop (m+1)) x)=_
      rw [Qla (fun c hc=> ht c (List.mem_of_mem_drop hc)) hx128]
     rw [hib]
     exact ⟨.inr (-1),rfl, .inr rfl⟩
    ·have hd:decide ((m:Int) < (t.length:Int))=false:=by simp;omega
     rw [hd]
     exact ⟨.inl (),rfl, .inl rfl⟩
   obtain ⟨o,ho,ho2⟩:=hbody
   rw [zOa ho]
   rcases ho2 with rfl | rfl <;> rfl
theorem Wfa (s t:Str) (h8:s.length≤8) (h2:2≤t.length) (hl:t.length < 4294967281) (ht:QJa t=true):qIa s t=some (Lib.indexAny s t):=by
 have htc:∀c∈t,c.toNat < 128:=fun c hc=> QPa ht hc
 unfold qIa
 have e1:(t==([]:Str))=false:=by rw [beq_eq_false_iff_ne];rintro rfl;simp at h2
 have e2:((t.length:Int)==1)=false:=by rw [beq_eq_false_iff_ne];omega
 have e3:zGa (s.length:Int)=some false:=by unfold zGa;simp;omega
 rw [e1,e2,e3]
 simp only [cond_false,Option.bind_some]
 obtain ⟨o,ho,ho2⟩:=Voa (body:=kXa s t) (fun i=> Lib.NoAny s t i) (fun i=> s.length - i) (fun _ o=> Sum.elim (fun _=> some (-1)) (fun b=> some b) o=some (Lib.indexAny s t)) (fun i hi=> by
  unfold kXa
  by_cases hlt:i < s.length
  ·have hg:s[i]? =some s[i]:=List.getElem?_eq_getElem hlt
   rw [decide_eq_true hlt]
   simp only [cond_true]
   by_cases hc:s[i].toNat < 128
   ·obtain ⟨q1,q2⟩:=QOa hg hc
    rw [q1,q2,KSa t _ hc]
    simp only [Option.bind_some]
    have hcon:=Lib.contains_iff_indexByte t s[i]
    rw [←hcon]
    cases hin:t.contains s[i] with
    | true=>
     left
     exact ⟨.inr (i:Int),rfl,by rw [Lib.indexAny_hit hi hg hin];rfl⟩
    | false=>
     right
     exact ⟨i+1,rfl,hi.succ hg hin,by omega,fun _ h=> h⟩
   ·have hc:128≤s[i].toNat:=by omega
    obtain ⟨q1,q2,q3⟩:=zPb hg hc
    rw [Qma t _ q1 htc (by omega)]
    right
    refine ⟨i+wWa s i,rfl,fun j b hj hb=> ?_,by omega,fun _ h=> h⟩
    by_cases hji:j < i
    ·exact hi j b hji hb
    ·have:=zQb hg hc (by omega) hj hb
     rw [Bool.eq_false_iff]
     intro hm
     have:=htc b (by simpa using hm)
     omega
  ·left
   rw [decide_eq_false hlt]
   refine ⟨.inl (),rfl, ?_⟩
   have hn:Lib.NoAny s t s.length:=fun j b hj hb=> hi j b (by omega) hb
   rw [Lib.indexAny_none hn];rfl) 0 (Lib.NoAny.zero s t)
 rw [ho];exact ho2
end Go.Proofs.YtjnmamghadpedaaGreatDoor
namespace Go.Proofs.YtjnmamghadpedaaGreatDoor
open Go.RowKit
theorem Wga (t:Str):∀s:Str,decide (0≤Lib.indexAny s t)=s.any fun c=> t.contains c:=by
 intro s
 induction s with
 | nil=> rfl
 | cons c s ih=>
  have hge:=Lib.indexAny_ge t s
  rw [List.any_cons,←ih,Lib.indexAny]
  cases t.contains c with
  | true=> simp
  | false=>
   simp only [Bool.false_eq_true,if_false,Bool.false_or]
   by_cases h:Lib.indexAny s t= -1
   ·simp [h]
   ·have:(Lib.indexAny s t== -1)=false:=by simpa using h
    rw [this]
    simp only [Bool.false_eq_true,if_false]
    rw [Bool.eq_iff_iff];simp;omega
theorem vya (s t:Str) (hs:s.length≤1048576) (h2:2≤t.length) (hl:t.length≤1048576) (ht:QJa t=true):zBa s t=some (s.any fun c=> t.contains c):=by
 unfold zBa kMa
 rw [if_pos ⟨by omega,by omega,h2,ht⟩]
 simp only [Option.bind_some,Wga]
end Go.Proofs.YtjnmamghadpedaaGreatDoor
namespace Go.Proofs.YtjnmamghadpedaaGreatDoor
open Go.RowKit
set_option maxHeartbeats 1000000
def ysa (c:UInt8):Bool:=c==32 || c==9
theorem jAa (c:UInt8):qya c=some (ysa c):=by
 unfold qya ysa
 rw [Kea c 32 (by decide),Kea c 9 (by decide)]
 cases c==32 <;> rfl
def fnC (c:UInt8):Bool:=decide (33≤c) && decide (c≤126) && c !=58
def fnP (s:Str):Bool:=s !=([]:Str) && decide (s.length≤60) && s.all fnC
theorem dec60 (s:Str):decide ((s.length:Int)≤60)=decide (s.length≤60):=by generalize s.length=n;rw [Bool.eq_iff_iff];simp;omega
theorem Wha (s:Str) (hs:s.length≤1048576):yTa s=some (fnP s):=by
 have hloop:iter (vOa s) 0=some ((z6a (fun _ c=> if !fnC c then some () else none) 0 s).elim (.inl ()) .inr):=by
  refine kra s _ (Sum.inl ()) Sum.inr ?_ ?_
  ·unfold vOa;rw [qda];rfl
  ·intro i c hc
   have hi:=kTa hc
   unfold vOa
   rw [vra hc,k3a hc]
   simp only [cond_true,Option.bind_some,u8_ne c 58 (by decide),KPa 33 c (by decide),KQa 126 c (by decide),sc i (by omega)]
   unfold fnC
   cases decide ((33:UInt8)≤c) <;> cases decide (c≤126) <;> cases c !=58 <;> rfl
 unfold yTa fnP
 rw [hloop]
 simp only [Option.bind_some,jza,Zja,Yja,dec60]
 cases s !=([]:Str) <;> cases decide (s.length≤60) <;> cases s.all fnC <;> rfl
def endC (c:UInt8):Bool:=c==13 || c==10 || c==0
theorem Wia (s:Str) (hs:s.length≤1048576):yUa s=some (s.any endC):=by
 unfold yUa
 rw [vya s _ hs (by decide) (by decide) (by decide)]
 simp only [Option.bind_some,Option.some.injEq]
 congr 1
 funext c
 rw [Bool.eq_iff_iff]
 simp [endC,or_assoc]
def edgeP (s:Str):Bool:=match s.head?,s.getLast? with | some a,some b=> ysa a || ysa b | _,_=> false
def valP (s:Str):Bool:= !(s.any endC) && !(edgeP s)
theorem idx_last (s:Str) (h:s≠ []) (hs:s.length≤1048576):∃a b,idx s 0=some a∧idx s (w64 ((s.length:Int) - 1))=some b∧s.head? =some a∧s.getLast? =some b:=by
 have hpos:=List.length_pos_iff.2 h
 obtain ⟨a,r,rfl⟩:=List.exists_cons_of_ne_nil h
 have e:w64 (((a::r).length:Int) - 1)=((r.length:Nat):Int):=by
  have hl:(a::r).length=r.length+1:=rfl
  rw [qfa (by omega) (by omega)];omega
 refine ⟨a,(a::r).getLast h,rfl, ?_,rfl,List.getLast?_eq_some_getLast h⟩
 rw [e,yVa,List.getLast_eq_getElem h,List.getElem?_eq_getElem (by simp)]
 congr 2
theorem Vva (s:Str) (hs:s.length≤1048576):wXa s=some (valP s):=by
 unfold wXa valP
 rw [Wia s hs]
 simp only [Option.bind_some]
 by_cases hn:s= []
 ·subst hn;rfl
 ·obtain ⟨a,b,h1,h2,h3,h4⟩:=idx_last s hn hs
  have e:(s==([]:Str))=false:=by simpa using hn
  unfold edgeP
  rw [h1,h2,h3,h4,e]
  simp only [Option.bind_some,jAa,cond_false]
  cases s.any endC <;> cases ysa a <;> cases ysa b <;> rfl
def br (t:Str) (f i:Nat):Bool:=decide (1≤i) && decide (f≤i) && (match t[i]?,t[i - 1]? with | some a,some b=> ysa a && !ysa b | _,_=> false)
def Vwa (t:Str) (f:Nat):Nat→Nat
 | 0=> 0
 | i+1=> if br t f (i+1) then i+1 else Vwa t f i
def Yma (t:Str) (f:Nat):Nat→Nat→Nat
 | 0,_=> 0
 | n+1,i=> if br t f i then i else Yma t f n (i+1)
def cutP (t:Str) (f:Nat):Nat:=if Vwa t f 78=0 then Yma t f (t.length - 79) 79 else Vwa t f 78
def Yna (t:Str) (f c:Nat):Prop:=(c=0∧∀j,br t f j=false)∨(br t f c=true∧((c≤78∧∀j,c < j→j≤78→br t f j=false)∨(78 < c∧∀j,j < c→br t f j=false)))
theorem zRb (t:Str) (f:Nat):br t f 0=false:=rfl
theorem Yoa {t:Str} {f i:Nat} (h:br t f i=true):i < t.length∧1≤i∧f≤i:=by
 unfold br at h
 simp only [Bool.and_eq_true,decide_eq_true_eq] at h
 obtain ⟨⟨h1,h2⟩,h3⟩:=h
 refine ⟨?_,h1,h2⟩
 cases hi:t[i]? with
 | none=> rw [hi] at h3;simp at h3
 | some a=> exact kTa hi
theorem Wja {t:Str} {f c d:Nat} (h:Yna t f c) (k:Yna t f d):c=d:=by
 rcases h with ⟨rfl,h⟩ | ⟨hc,h⟩ <;> rcases k with ⟨rfl,k⟩ | ⟨hd,k⟩
 ·rfl
 ·rw [h] at hd;cases hd
 ·rw [k] at hc;cases hc
 ·rcases Nat.lt_trichotomy c d with hlt | heq | hgt
  ·exfalso
   rcases h with ⟨h1,h2⟩ | ⟨h1,h2⟩ <;> rcases k with ⟨k1,k2⟩ | ⟨k1,k2⟩
   ·rw [h2 d hlt k1] at hd;cases hd
   ·rw [k2 c hlt] at hc;cases hc
   ·omega
   ·rw [k2 c hlt] at hc;cases hc
  ·exact heq
  ·exfalso
   rcases h with ⟨h1,h2⟩ | ⟨h1,h2⟩ <;> rcases k with ⟨k1,k2⟩ | ⟨k1,k2⟩
   ·rw [k2 c hgt h1] at hc;cases hc
   ·omega
   ·rw [h2 d hgt] at hd;cases hd
   ·rw [h2 d hgt] at hd;cases hd
theorem JCa (t:Str) (f:Nat):∀n,(Vwa t f n=0∧∀j,j≤n→br t f j=false)∨(br t f (Vwa t f n)=true∧Vwa t f n≤n∧∀j,Vwa t f n < j→j≤n→br t f j=false):=by
 intro n
 induction n with
 | zero=> left;exact ⟨rfl,fun j hj=> by
     obtain rfl:j=0:=by omega
     exact zRb t f⟩
 | succ n ih=>
  unfold Vwa
  by_cases h:br t f (n+1)=true
  ·rw [if_pos h];right;exact ⟨h,Nat.le_refl _,fun j h1 h2=> by omega⟩
  ·rw [if_neg h]
   rcases ih with ⟨h1,h2⟩ | ⟨h1,h2,h3⟩
   ·left
    refine ⟨h1,fun j hj=> ?_⟩
    by_cases e:j=n+1
    ·subst e;simpa using h
    ·exact h2 j (by omega)
   ·right
    refine ⟨h1,by omega,fun j hj hjn=> ?_⟩
    by_cases e:j=n+1
    ·subst e;simpa using h
    ·exact h3 j hj (by omega)
theorem JDa (t:Str) (f:Nat):∀n i,(Yma t f n i=0∧∀j,i≤j→j < i+n→br t f j=false)∨(br t f (Yma t f n i)=true∧i≤Yma t f n i∧∀j,i≤j→j < Yma t f n i→br t f j=false):=by
 intro n
 induction n with
 | zero=> intro i;left;exact ⟨rfl,fun j h1 h2=> by omega⟩
 | succ n ih=>
  intro i
  unfold Yma
  by_cases h:br t f i=true
  ·rw [if_pos h];right;exact ⟨h,Nat.le_refl _,fun j h1 h2=> by omega⟩
  ·rw [if_neg h]
   have hb:br t f i=false:=by simpa using h
   rcases ih (i+1) with ⟨h1,h2⟩ | ⟨h1,h2,h3⟩
   ·left
    refine ⟨h1,fun j hj hjn=> ?_⟩
    by_cases e:j=i
    ·subst e;exact hb
    ·exact h2 j (by omega) (by omega)
   ·right
    refine ⟨h1,by omega,fun j hj hjn=> ?_⟩
    by_cases e:j=i
    ·subst e;exact hb
    ·exact h3 j (by omega) hjn
theorem zSb (t:Str) (f:Nat):Yna t f (cutP t f):=by
 unfold cutP
 rcases JCa t f 78 with ⟨h1,h2⟩ | ⟨h1,h2,h3⟩
 ·rw [if_pos h1]
  rcases JDa t f (t.length - 79) 79 with ⟨k1,k2⟩ | ⟨k1,k2,k3⟩
  ·left
   refine ⟨k1,fun j=> ?_⟩
   by_cases hj:j≤78
   ·exact h2 j hj
   ·cases hb:br t f j with
    | false=> rfl
    | true=> have:=(Yoa hb).1;rw [k2 j (by omega) (by omega)] at hb;cases hb
  ·right
   refine ⟨k1, .inr ⟨by omega,fun j hj=> ?_⟩⟩
   by_cases hj2:j≤78
   ·exact h2 j hj2
   ·exact k3 j (by omega) hj
 ·have hne:Vwa t f 78≠0:=by intro h;rw [h,zRb] at h1;cases h1
  rw [if_neg hne]
  exact .inr ⟨h1, .inl ⟨h2,h3⟩⟩
theorem Zla {t:Str} {f:Nat} (h:cutP t f≠0):1≤cutP t f∧cutP t f < t.length:=by
 rcases zSb t f with ⟨h1,_⟩ | ⟨h1,_⟩
 ·exact absurd h1 h
 ·exact ⟨(Yoa h1).2.1,(Yoa h1).1⟩
theorem br_at {t:Str} {f i:Nat} (h1:1≤i) (hi:i < t.length):br t f i=(decide (f≤i) && (ysa t[i] && !ysa (t[i - 1]'(by omega)))):=by
 unfold br
 rw [List.getElem?_eq_getElem hi,List.getElem?_eq_getElem (show i - 1 < t.length by omega)]
 simp [h1]
def PInv (t:Str) (f b i:Nat):Prop:=f≤i∧1≤i∧((b=0∧∀j,j < i→br t f j=false)∨(br t f b=true∧b < i∧((b≤78∧∀j,b < j→j < i→br t f j=false)∨(78 < b∧∀j,j < b→br t f j=false))))
theorem PInv.done {t:Str} {f b i:Nat} (h:PInv t f b i) (hi:0 < b∧78 < i∨t.length≤i):Yna t f b:=by
 obtain ⟨hf,h1,h2⟩:=h
 rcases h2 with ⟨rfl,h3⟩ | ⟨h3,h4,h5⟩
 ·left
  refine ⟨rfl,fun j=> ?_⟩
  cases hb:br t f j with
  | false=> rfl
  | true=>
   have:=(Yoa hb).1
   rw [h3 j (by omega)] at hb;cases hb
 ·right
  refine ⟨h3, ?_⟩
  rcases h5 with ⟨h6,h7⟩ | h6
  ·left
   refine ⟨h6,fun j hj hj2=> ?_⟩
   cases hb:br t f j with
   | false=> rfl
   | true=>
    have:=(Yoa hb).1
    rw [h7 j hj (by omega)] at hb;cases hb
  ·exact .inr h6
theorem Vxa (t:Str) (f:Nat) (ht:t.length≤4194304) (hf:f≤4194304):wYa t (f:Int)=some ((cutP t (max f 1):Nat):Int):=by
 unfold wYa
 have hstart:max (f:Int) 1=((max f 1:Nat):Int):=by omega
 rw [hstart]
 obtain ⟨r,h1,b,rfl,h2⟩:=Voa (body:=v3a t) (fun s=> ∃b i:Nat,s=((b:Int),(i:Int))∧PInv t (max f 1) b i∧i≤4194305) (fun s=> (4194306 - s.2).toNat) (fun _ r=> ∃c:Nat,r=(c:Int)∧Yna t (max f 1) c) (by
  rintro _ ⟨b,i,rfl,hI,hil⟩
  have hi1:=hI.2.1
  unfold v3a
  dsimp only
  by_cases hlt:i < t.length
  ·have hd:decide ((i:Int) < (t.length:Int))=true:=by simp;omega
   have hpre:w64 ((i:Int) - 1)=((i - 1:Nat):Int):=by rw [qfa (by omega) (by omega)];omega
   rw [hd,YMa hlt,hpre,YMa (show i - 1 < t.length by omega)]
   have hb:=br_at (f:=max f 1) hi1 hlt
   have hfi:decide (max f 1≤i)=true:=by simp only [decide_eq_true_eq];exact hI.1
   rw [hfi,Bool.true_and] at hb
   simp only [cond_true,Option.bind_some,jAa]
   have next:∀b' :Nat,PInv t (max f 1) b' (i+1)→qba ((b:Int),(i:Int)) (b' :Int)=some (.cont ((b' :Int),((i+1:Nat):Int))):=by
    intro b' _
    unfold qba
    dsimp only
    rw [sc i (by omega)]
   have hno:br t (max f 1) i=false→PInv t (max f 1) b (i+1):=by
    intro hnb
    refine ⟨by have:=hI.1;omega,by omega, ?_⟩
    rcases hI.2.2 with ⟨q1,q2⟩ | ⟨q1,q2,q3⟩
    ·left
     refine ⟨q1,fun j hj=> ?_⟩
     by_cases e:j=i
     ·subst e;exact hnb
     ·exact q2 j (by omega)
    ·right
     refine ⟨q1,by omega, ?_⟩
     rcases q3 with ⟨q4,q5⟩ | q4
     ·left
      refine ⟨q4,fun j hj hj2=> ?_⟩
      by_cases e:j=i
      ·subst e;exact hnb
      ·exact q5 j hj (by omega)
     ·exact .inr q4
   have goNo:br t (max f 1) i=false→(∃s',qba ((b:Int),(i:Int)) (b:Int)=some (.cont s')∧(∃b i:Nat,s' =((b:Int),(i:Int))∧PInv t (max f 1) b i∧i≤4194305)∧(4194306 - s'.2).toNat < (4194306 - ((i:Int))).toNat∧∀r:Int,(∃c:Nat,r=(c:Int)∧Yna t (max f 1) c)→∃c:Nat,r=(c:Int)∧Yna t (max f 1) c):=by
    intro hnb
    exact ⟨_,next b (hno hnb),⟨b,i+1,rfl,hno hnb,by omega⟩,by dsimp only;omega,fun _ h=> h⟩
   cases ha:ysa t[i] with
   | false=>
    rw [ha] at hb
    simp only [Bool.not_false,cond_true,Option.bind_some]
    exact .inr (goNo hb)
   | true=>
    rw [ha] at hb
    simp only [Bool.not_true,cond_false,Option.bind_some]
    cases hp:ysa t[i - 1] with
    | true=>
     rw [hp] at hb
     simp only [cond_true]
     exact .inr (goNo hb)
    | false=>
     rw [hp] at hb
     have hb:br t (max f 1) i=true:=hb
     simp only [cond_false]
     by_cases hb0:0 < b∧78 < i
     ·left
      have e1:decide ((0:Int) < (b:Int))=true:=by simp;omega
      have e2:decide ((78:Int) < (i:Int))=true:=by simp;omega
      rw [e1,e2]
      exact ⟨(b:Int),rfl,b,rfl,hI.done (.inl hb0)⟩
     ·right
      have e:(bif decide ((0:Int) < (b:Int)) then some (decide ((78:Int) < (i:Int))) else some false)=some false:=by
       by_cases h0:0 < b
       ·have e1:decide ((0:Int) < (b:Int))=true:=by simp;omega
        have e2:decide ((78:Int) < (i:Int))=false:=by simp;omega
        rw [e1,e2];rfl
       ·have e1:decide ((0:Int) < (b:Int))=false:=by simp;omega
        rw [e1];rfl
      rw [e]
      simp only [Option.bind_some,cond_false]
      have hnew:PInv t (max f 1) i (i+1):=by
       refine ⟨by have:=hI.1;omega,by omega, .inr ⟨hb,by omega, ?_⟩⟩
       by_cases h78:i≤78
       ·exact .inl ⟨h78,fun j h1 h2=> by omega⟩
       ·right
        refine ⟨by omega, ?_⟩
        rcases hI.2.2 with ⟨q1,q2⟩ | ⟨q1,q2,q3⟩
        ·exact q2
        ·exfalso
         have:=(Yoa q1).2.1
         omega
      exact ⟨_,next i hnew,⟨i,i+1,rfl,hnew,by omega⟩,by dsimp only;omega,fun _ h=> h⟩
  ·left
   have hd:decide ((i:Int) < (t.length:Int))=false:=by simp;omega
   rw [hd]
   exact ⟨(b:Int),rfl,b,rfl,hI.done (.inr (by omega))⟩) ((0:Int),((max f 1:Nat):Int)) ⟨0,max f 1,rfl,⟨Nat.le_refl _,by omega, .inl ⟨rfl,fun j hj=> by
   cases hb:br t (max f 1) j with
   | false=> rfl
   | true=> have:=(Yoa hb).2.2;omega⟩⟩,by omega⟩
 rw [h1]
 simp only [Option.bind_some]
 rw [Wja h2 (zSb t (max f 1))]
end Go.Proofs.YtjnmamghadpedaaGreatDoor
namespace Go.Proofs.YtjnmamghadpedaaGreatDoor
open Go.RowKit
set_option maxHeartbeats 1000000
def Zma:Nat→Str→Nat→List Str
 | 0,t,_=> [t]
 | n+1,t,f=> if 78 < t.length then (if cutP t f=0 then [t] else t.take (cutP t f)::Zma n (t.drop (cutP t f)) 1) else [t]
theorem Vya:∀(n m:Nat) (t:Str) (f:Nat),t.length≤n→t.length≤m→Zma n t f=Zma m t f:=by
 intro n
 induction n with
 | zero=>
  intro m t f h1 h2
  cases m with
  | zero=> rfl
  | succ m=> unfold Zma;rw [if_neg (by omega)]
 | succ n ih=>
  intro m t f h1 h2
  cases m with
  | zero=> unfold Zma;rw [if_neg (by omega)]
  | succ m=>
   unfold Zma
   split
   ·split
    ·rfl
    ·rename_i hc
     have:=Zla hc
     rw [ih m _ 1 (by simp;omega) (by simp;omega)]
   ·rfl
def wNa (t:Str) (f:Nat):List Str:=Zma t.length t f
theorem Z5a {t:Str} {f:Nat} (h:78 < t.length) (hc:cutP t f≠0):wNa t f=t.take (cutP t f)::wNa (t.drop (cutP t f)) 1:=by
 unfold wNa
 obtain ⟨n,hn⟩:∃n,t.length=n+1:=⟨t.length - 1,by omega⟩
 have hp:=Zla hc
 rw [hn,Zma,if_pos h,if_neg hc]
 rw [Vya n (t.drop (cutP t f)).length _ 1 (by simp;omega) (Nat.le_refl _)]
theorem vHa {t:Str} {f:Nat} (h:¬78 < t.length∨cutP t f=0):wNa t f= [t]:=by
 unfold wNa
 cases hn:t.length with
 | zero=> rfl
 | succ n=>
  rw [Zma]
  rcases h with h | h
  ·rw [if_neg h]
  ·split
   ·rfl
   ·rfl
theorem Wka:∀(n:Nat) (t:Str) (f:Nat),t.length≤n→(wNa t f).flatten=t∧(wNa t f).length≤t.length+1:=by
 intro n
 induction n with
 | zero=> intro t f h;rw [vHa (.inl (by omega))];simp
 | succ n ih=>
  intro t f h
  by_cases h78:78 < t.length
  ·by_cases hc:cutP t f=0
   ·rw [vHa (.inr hc)];simp
   ·have hp:=Zla hc
    rw [Z5a h78 hc]
    obtain ⟨h1,h2⟩:=ih (t.drop (cutP t f)) 1 (by simp;omega)
    rw [List.flatten_cons,h1]
    refine ⟨by simp, ?_⟩
    simp only [List.length_cons,List.length_drop] at h2 ⊢
    omega
  ·rw [vHa (.inl h78)];simp
theorem JEa {body:Str × Int × List Str→Option (Step (Str × Int × List Str) (Str × List Str))} (enc:Nat→Int) (g:Nat)
  (h:∀(t:Str) (f:Nat) (out:List Str),t.length≤4194304→out.length≤4194305→f≤4194304→body (t,enc f,out)=some (if 78 < t.length then (if cutP t (max f 1)=0 then .out (t,out) else .cont (t.drop (cutP t (max f 1)),enc g,out++ [t.take (cutP t (max f 1))])) else .out (t,out))) (h0:max g 1=1):
  ∀(n:Nat) (t:Str) (f:Nat) (out:List Str),t.length≤n→t.length≤4194304→out.length+t.length≤4194305→f≤4194304→∃last init,iter body (t,enc f,out)=some (last,init)∧init++ [last]=out++wNa t (max f 1):=by
 intro n
 induction n with
 | zero=>
  intro t f out h1 h2 h3 h4
  have hb:=h t f out h2 (by omega) h4
  rw [if_neg (by omega)] at hb
  exact ⟨t,out,zOa hb,by rw [vHa (.inl (by omega))]⟩
 | succ n ih=>
  intro t f out h1 h2 h3 h4
  have hb:=h t f out h2 (by omega) h4
  by_cases h78:78 < t.length
  ·rw [if_pos h78] at hb
   by_cases hc:cutP t (max f 1)=0
   ·rw [if_pos hc] at hb
    exact ⟨t,out,zOa hb,by rw [vHa (.inr hc)]⟩
   ·rw [if_neg hc] at hb
    have hp:=Zla hc
    obtain ⟨last,init,q1,q2⟩:=ih (t.drop (cutP t (max f 1))) g (out++ [t.take (cutP t (max f 1))]) (by simp;omega) (by simp;omega) (by simp;omega) (by omega)
    refine ⟨last,init,(z9a hb).trans q1, ?_⟩
    rw [q2,h0,Z5a h78 hc];simp
  ·rw [if_neg h78] at hb
   exact ⟨t,out,zOa hb,by rw [vHa (.inl h78)]⟩
def txt (n v:Str):Str:=n++ [58,32]++v
def flP (n v:Str):List Str:=wNa (txt n v) (n.length+2)
theorem zTb (t:Str) (f:Nat) (ht:t.length≤4194304) (hf:f≤4194304):∃last init,iter vPa (t,(f:Int),([]:List Str))=some (last,init)∧init++ [last]=wNa t (max f 1):=by
 have:=JEa (body:=vPa) (fun n=> (n:Int)) 0 (fun t f out h1 h2 h3=> by
  unfold vPa
  dsimp only
  by_cases h78:78 < t.length
  ·have hd:decide ((78:Int) < (t.length:Int))=true:=by rw [decide_eq_true_eq];omega
   rw [hd,if_pos h78,Vxa t f h1 h3]
   simp only [cond_true,Option.bind_some]
   by_cases hc:cutP t (max f 1)=0
   ·rw [if_pos hc,hc];rfl
   ·have hp:=Zla hc
    have e:(((cutP t (max f 1):Nat):Int)==0)=false:=by rw [beq_eq_false_iff_ne];omega
    rw [if_neg hc,e,QLa (by omega),jya (by omega)]
    simp only [cond_false,Option.bind_some]
    rw [qVa (by simp;omega)];rfl
  ·have hd:decide ((78:Int) < (t.length:Int))=false:=by rw [decide_eq_false_iff_not];omega
   rw [hd,if_neg h78];rfl) (by decide) t.length t f [] (Nat.le_refl _) ht (by simp;omega) hf
 simpa using this
theorem txt_cat (n v:Str) (hn:n.length≤1048576) (hv:v.length≤1048576):cat n [58,32]=some (n++ [58,32])∧cat (n++ [58,32]) v=some (txt n v)∧w64 ((n.length:Int)+2)=((n.length+2:Nat):Int):=by
 refine ⟨vUa (by simp;omega),vUa (by simp;omega), ?_⟩
 rw [qfa (by omega) (by omega)];omega
theorem zUb (n v:Str):(txt n v).length=n.length+2+v.length:=by unfold txt;simp;omega
def KTa (i:Nat) (l:Str):Option Int:=if 998 < l.length then some (i:Int) else none
def Ypa (n v:Str):List Str × zsa:=
 if !fnP n then ([],⟨10, -1⟩) else if 4000 < v.length then ([],⟨1, -1⟩) else if !valP v then ([],⟨11, -1⟩) else match z6a KTa 0 (flP n v) with | some i=> ([],⟨1,i⟩) | none=> (flP n v,⟨0,0⟩)
theorem fl_len (n v:Str):(flP n v).length≤n.length+v.length+3:=by
 have:=(Wka (txt n v).length (txt n v) (n.length+2) (Nat.le_refl _)).2
 have hl:=zUb n v
 unfold flP;omega
theorem dec998 (l:Str):decide ((998:Int) < (l.length:Int))=decide (998 < l.length):=by generalize l.length=n;rw [Bool.eq_iff_iff];simp;omega
theorem Z6a (n v:Str) (hn:n.length≤1048576) (hv:v.length≤1048576):wZa n v=some (Ypa n v):=by
 obtain ⟨h1,h2,h3⟩:=txt_cat n v hn hv
 have hl:=zUb n v
 obtain ⟨last,init,q1,q2⟩:=zTb (txt n v) (n.length+2) (by omega) (by omega)
 rw [show max (n.length+2) 1=n.length+2 by omega] at q2
 unfold wZa Ypa
 rw [Wha n hn,Vva v hv]
 simp only [Option.bind_some,zza,zPa]
 cases fnP n with
 | false=> rfl
 | true=>
  simp only [Bool.not_true,cond_false,Bool.false_eq_true,if_false]
  by_cases h4:4000 < v.length
  ·have hd:decide ((4000:Int) < (v.length:Int))=true:=by rw [decide_eq_true_eq];omega
   rw [hd,if_pos h4];rfl
  ·have hd:decide ((4000:Int) < (v.length:Int))=false:=by rw [decide_eq_false_iff_not];omega
   rw [hd,if_neg h4]
   simp only [cond_false]
   cases valP v with
   | false=> rfl
   | true=>
    simp only [Bool.not_true,cond_false,Bool.false_eq_true,if_false]
    rw [h1]
    simp only [Option.bind_some]
    rw [h2]
    simp only [Option.bind_some]
    rw [h3,q1]
    simp only [Option.bind_some]
    have hj:=fl_len n v
    have hfl:flP n v=init++ [last]:=q2.symm
    have hj2:=hj
    rw [hfl] at hj2
    simp at hj2
    rw [qVa (by simp;omega),←hfl]
    simp only [Option.bind_some]
    rw [kra (flP n v) (fun i l=> (KTa i l).map fun k=> (([]:List Str),(⟨1,k⟩:zsa))) (.inl ()) .inr]
    ·simp only [Option.bind_some]
     have hm:∀(l:List Str) (i:Nat),z6a (fun i l=> (KTa i l).map fun k=> (([]:List Str),(⟨1,k⟩:zsa))) i l=(z6a KTa i l).map fun k=> (([]:List Str),(⟨1,k⟩:zsa)):=by
      intro l
      induction l with
      | nil=> intro i;rfl
      | cons x l ih=> intro i;unfold z6a;rw [ih];cases KTa i x <;> rfl
     rw [hm]
     cases z6a KTa 0 (flP n v) <;> rfl
    ·unfold wHa;rw [qda];rfl
    ·intro i l hli
     have hi:=kTa hli
     unfold wHa KTa
     rw [vra hli,k3a hli]
     simp only [cond_true,Option.bind_some,dec998,zza,sc i (by omega)]
     by_cases h9:998 < l.length
     ·simp [h9]
     ·simp [h9]
end Go.Proofs.YtjnmamghadpedaaGreatDoor
namespace Go.Proofs.YtjnmamghadpedaaGreatDoor
open Go.RowKit
set_option maxHeartbeats 1000000
def Zna (f:zfa):Int:=(Ypa f.Name f.Value).2.Code
def JFa (l:List Str):Bool:=l.any fun s=> decide (998 < s.length)
theorem QQa (l:List Str):∀n,(z6a KTa n l).isSome=JFa l:=by
 induction l with
 | nil=> intro n;rfl
 | cons x l ih=>
  intro n
  unfold z6a JFa KTa
  by_cases h:998 < x.length
  ·simp [h]
  ·simp only [h,if_false,List.any_cons,decide_false,Bool.false_or]
   exact ih (n+1)
def codeQ (n v:Str):Int:=if !fnP n then 10 else if 4000 < v.length then 1 else if !valP v then 11 else if JFa (flP n v) then 1 else 0
theorem codeP_eq (f:zfa):Zna f=codeQ f.Name f.Value:=by
 unfold Zna Ypa codeQ
 rw [←QQa (flP f.Name f.Value) 0]
 split
 ·rfl
 ·split
  ·rfl
  ·split
   ·rfl
   ·cases z6a KTa 0 (flP f.Name f.Value) <;> rfl
def smallF (l:List zfa):Prop:=l.length≤1048576∧∀f∈l,f.Name.length≤1048576∧f.Value.length≤1048576
def KUa (i:Nat) (f:zfa):Option zsa:=if Zna f !=0 then some ⟨Zna f,i⟩ else none
def Vza (l:List zfa):zsa:=if 60 < l.length then ⟨2, -1⟩ else (z6a KUa 0 l).getD ⟨0,0⟩
theorem dec60f (l:List zfa):decide ((60:Int) < (l.length:Int))=decide (60 < l.length):=by generalize l.length=n;rw [Bool.eq_iff_iff];simp;omega
theorem Zoa (l:List zfa) (h:smallF l):qza l=some (Vza l):=by
 obtain ⟨h1,h2⟩:=h
 unfold qza Vza
 rw [kra l KUa (.inl ()) .inr]
 ·simp only [Option.bind_some,zza,zPa,ZLa,dec60f]
  by_cases h6:60 < l.length <;> simp [h6]
 ·unfold qpa;rw [qda];rfl
 ·intro i f hf
  have hi:=kTa hf
  obtain ⟨hn,hv⟩:=h2 f (List.mem_of_getElem? hf)
  unfold qpa KUa
  rw [vra hf,k3a hf]
  simp only [cond_true,Option.bind_some,Z6a _ _ hn hv,z5a,zza,sc i (by omega)]
  show (bif Zna f !=0 then _ else _)=_
  cases Zna f !=0 <;> rfl
theorem QRa (l:List zfa) (h:(Vza l).Code=0):¬60 < l.length∧z6a KUa 0 l=none∧∀f∈l,Zna f=0:=by
 unfold Vza at h
 by_cases h6:60 < l.length
 ·rw [if_pos h6] at h;simp at h
 ·rw [if_neg h6] at h
  cases hq:z6a KUa 0 l with
  | some y=>
   rw [hq] at h
   obtain ⟨i,f,h1,h2⟩:=jOa hq
   unfold KUa at h2
   exfalso
   by_cases hc:Zna f=0
   ·simp [hc] at h2
   ·have:(Zna f !=0)=true:=by simpa using hc
    rw [this] at h2
    simp at h2
    subst h2
    exact hc h
  | none=>
   refine ⟨h6,rfl,fun f hf=> ?_⟩
   obtain ⟨i,hi⟩:=List.getElem?_of_mem hf
   have:=vGa.1 hq i f hi
   unfold KUa at this
   simpa using this
theorem codeP_ok {f:zfa} (h:Zna f=0):f.Name.length≤60∧f.Value.length≤4000∧Ypa f.Name f.Value=(flP f.Name f.Value,⟨0,0⟩)∧∀l∈flP f.Name f.Value,l.length≤998:=by
 have h0:=h
 rw [codeP_eq] at h
 unfold codeQ at h
 have h1:fnP f.Name=true:=by cases hx:fnP f.Name with
  | true=> rfl
  | false=> rw [hx] at h;simp at h
 rw [h1] at h
 simp only [Bool.not_true,Bool.false_eq_true,if_false] at h
 have h2:¬4000 < f.Value.length:=by intro hx;rw [if_pos hx] at h;simp at h
 rw [if_neg h2] at h
 have h3:valP f.Value=true:=by cases hx:valP f.Value with
  | true=> rfl
  | false=> rw [hx] at h;simp at h
 rw [h3] at h
 simp only [Bool.not_true,Bool.false_eq_true,if_false] at h
 have h4:JFa (flP f.Name f.Value)=false:=by cases hx:JFa (flP f.Name f.Value) with
  | false=> rfl
  | true=> rw [hx] at h;simp at h
 refine ⟨?_,by omega, ?_, ?_⟩
 ·unfold fnP at h1;simp only [Bool.and_eq_true,decide_eq_true_eq] at h1;exact h1.1.2
 ·unfold Ypa
  rw [h1,h3]
  simp only [Bool.not_true,Bool.false_eq_true,if_false,if_neg h2]
  have:=QQa (flP f.Name f.Value) 0
  rw [h4] at this
  cases hx:z6a KTa 0 (flP f.Name f.Value) with
  | none=> rfl
  | some y=> rw [hx] at this;cases this
 ·intro l hl
  unfold JFa at h4
  rw [List.any_eq_false] at h4
  have:=h4 l hl
  simp at this;omega
def addL (a:List UInt8) (l:Str):List UInt8:=a++l++ [13,10]
def addF (a:List UInt8) (f:zfa):List UInt8:=(flP f.Name f.Value).foldl addL a
def zoa (m:zva):List UInt8:=m.Fields.foldl addF []++ [13,10]++m.Body
theorem lines_wr (l:List Str) (acc:List UInt8) (hl:l.length≤5000) (h9:∀s∈l,s.length≤998) (ha:acc.length≤1000000000) {body:Int × List UInt8→Option (Step (Int × List UInt8) (List UInt8))}
  (h0:∀s,body ((l.length:Int),s)=some (.out s)) (h1:∀(i:Nat) x s,l[i]? =some x→s.length≤1006000000→body ((i:Int),s)=some (.cont (((i+1:Nat):Int),addL s x))):iter body (0,acc)=some (l.foldl addL acc)∧(l.foldl addL acc).length≤acc.length+1000 * l.length:=
 Wda l (fun i s=> (i,s)) addL id (fun i s=> s.length≤acc.length+1000 * i) (body:=body) (fun s _=> h0 s) (fun i x s hx hi=> by
  have hlt:=kTa hx
  have h9x:=h9 x (List.mem_of_getElem? hx)
  refine ⟨h1 i x s hx (by omega), ?_⟩
  unfold addL;simp;omega) acc (by simp)
theorem zVb (l:List zfa) (hl:l.length≤60) (hc:∀f∈l,Zna f=0) {body:Int × List UInt8→Option (Step (Int × List UInt8) (List UInt8))}
  (h0:∀s,body ((l.length:Int),s)=some (.out s)) (h1:∀(i:Nat) f s,l[i]? =some f→s.length≤1000000000→body ((i:Int),s)=some (.cont (((i+1:Nat):Int),addF s f))∧(addF s f).length≤s.length+5000000):iter body (0,([]:List UInt8))=some (l.foldl addF [])∧(l.foldl addF []).length≤5000000 * l.length:=
 Wda l (fun i s=> (i,s)) addF id (fun i s=> s.length≤5000000 * i) (body:=body) (fun s _=> h0 s) (fun i f s hf hi=> by
  have hlt:=kTa hf
  obtain ⟨q1,q2⟩:=h1 i f s hf (by omega)
  exact ⟨q1,by omega⟩) [] (by simp)
theorem yta (m:zva) (hb:m.Body.length≤1048576) (h60:m.Fields.length≤60) (hc:∀f∈m.Fields,Zna f=0):qJa m=some (zoa m):=by
 unfold qJa zoa
 obtain ⟨h1,h2⟩:=zVb m.Fields h60 hc (body:=qka m) (fun s=> by unfold qka;rw [qda];rfl) (fun i f s hf hs=> by
  have hi:=kTa hf
  obtain ⟨c1,c2,c3,c4⟩:=codeP_ok (hc f (List.mem_of_getElem? hf))
  have hfl:=fl_len f.Name f.Value
  obtain ⟨q1,q2⟩:=lines_wr (flP f.Name f.Value) s (by omega) c4 hs (body:=qja (Ypa f.Name f.Value)) (fun s=> by unfold qja;rw [c3,qda];rfl) (fun k x s hx hs=> by
   have hk:=kTa hx
   have:=c4 x (List.mem_of_getElem? hx)
   unfold qja
   rw [c3,vra hx,k3a hx]
   simp only [cond_true,Option.bind_some,sc k (by omega)]
   rw [qVa (by omega)]
   simp only [Option.bind_some]
   rw [qVa (by simp;omega)];rfl)
  unfold addF
  refine ⟨?_,by omega⟩
  unfold qka
  rw [vra hf,k3a hf]
  simp only [cond_true,Option.bind_some,Z6a f.Name f.Value (by omega) (by omega),q1,sc i (by omega)])
 rw [h1]
 simp only [Option.bind_some]
 rw [qVa (by simp;omega)]
 simp only [Option.bind_some]
 rw [qVa (by simp;omega)];rfl
end Go.Proofs.YtjnmamghadpedaaGreatDoor
namespace Go.Proofs.YtjnmamghadpedaaGreatDoor
open Go.RowKit
set_option maxHeartbeats 1000000
def VAa:Nat→List UInt8→Option Bool
 | _, []=> none
 | c, [x]=> if x==13 || x==10 then some true else if 998 < c+1 then some false else none
 | c,x::y::r=> if x==13 && y==10 then VAa 0 r else if x==13 || x==10 then some true else if 998 < c+1 then some false else VAa (c+1) (y::r)
def Kqa {O:Type} (e:Bool→O) (c i:Nat) (x:UInt8) (r:List UInt8):Step (Int × Int) (Unit ⊕ O):=
 if x==13 && r.head? ==some 10 then .cont (0,((i+2:Nat):Int)) else if x==13 || x==10 then .out (.inr (e true)) else if 998 < c+1 then .out (.inr (e false)) else .cont (((c+1:Nat):Int),((i+1:Nat):Int))
theorem zWb {O:Type} (e:Bool→O) (l:List UInt8) {body:Int × Int→Option (Step (Int × Int) (Unit ⊕ O))}
  (h0:∀c,body (c,(l.length:Int))=some (.out (.inl ())))
  (hs:∀(c:Nat) (p:List UInt8) x r,l=p++x::r→c≤998→body ((c:Int),(p.length:Int))=some (Kqa e c p.length x r)):
  ∀(n:Nat) (r p:List UInt8) (c:Nat),r.length≤n→l=p++r→c≤998→iter body ((c:Int),(p.length:Int))=some ((VAa c r).elim (.inl ()) fun b=> .inr (e b)):=by
 intro n
 induction n with
 | zero=>
  intro r p c hr hl hc
  obtain rfl:r= []:=List.length_eq_zero_iff.1 (by omega)
  have:p=l:=by simp [hl]
  subst this
  exact zOa (h0 _)
 | succ n ih=>
  intro r p c hr hl hc
  match r,hr,hl with
  | [],_,hl=>
   have:p=l:=by simp [hl]
   subst this
   exact zOa (h0 _)
  | [x],hr,hl=>
   have hb:=hs c p x [] hl hc
   unfold Kqa at hb
   have e1:(x==13 && ([]:List UInt8).head? ==some 10)=false:=by simp
   rw [e1] at hb
   simp only [Bool.false_eq_true,if_false] at hb
   unfold VAa
   cases hx:(x==13 || x==10) with
   | true=> rw [hx] at hb;exact zOa hb
   | false=>
    rw [hx] at hb
    simp only [Bool.false_eq_true,if_false] at hb ⊢
    by_cases h9:998 < c+1
    ·rw [if_pos h9] at hb ⊢;exact zOa hb
    ·rw [if_neg h9] at hb ⊢
     rw [z9a hb]
     have:=ih [] (p++ [x]) (c+1) (by simp) (by simp [hl]) (by omega)
     rw [List.length_append] at this
     exact this
  | x::y::r,hr,hl=>
   have hb:=hs c p x (y::r) hl hc
   unfold Kqa at hb
   have e1:((y::r).head? ==some (10:UInt8))=(y==10):=by simp
   rw [e1] at hb
   unfold VAa
   cases hxy:(x==13 && y==10) with
   | true=>
    rw [hxy] at hb
    simp only [if_true] at hb ⊢
    rw [z9a hb]
    have:=ih r (p++ [x,y]) 0 (by simp at hr;omega) (by simp [hl]) (by omega)
    rw [List.length_append] at this
    exact this
   | false=>
    rw [hxy] at hb
    simp only [Bool.false_eq_true,if_false] at hb ⊢
    cases hx:(x==13 || x==10) with
    | true=> rw [hx] at hb;exact zOa hb
    | false=>
     rw [hx] at hb
     simp only [Bool.false_eq_true,if_false] at hb ⊢
     by_cases h9:998 < c+1
     ·rw [if_pos h9] at hb ⊢;exact zOa hb
     ·rw [if_neg h9] at hb ⊢
      rw [z9a hb]
      have:=ih (y::r) (p++ [x]) (c+1) (by simp at hr ⊢;omega) (by simp [hl]) (by omega)
      rw [List.length_append] at this
      exact this
theorem next_is {l p r:List UInt8} {x:UInt8} (h:l=p++x::r) (hl:l.length≤1048576):(bif decide (((p.length+1:Nat):Int) < (l.length:Int)) then (idx l ((p.length+1:Nat):Int)).bind fun v13=> some (((v13.toNat:Int)==10)) else some false)=some (r.head? ==some 10):=by
 subst h
 simp at hl
 cases r with
 | nil=>
  have:decide (((p.length+1:Nat):Int) < ((p++ [x]).length:Int))=false:=by simp
  rw [this];rfl
 | cons y r=>
  have:decide (((p.length+1:Nat):Int) < ((p++x::y::r).length:Int))=true:=by simp;omega
  rw [this,yVa]
  have:(p++x::y::r)[p.length+1]? =some y:=by simp [List.getElem?_append_right]
  rw [this]
  simp only [cond_true,Option.bind_some,Kea y 10 (by decide)]
  simp
theorem VBa (l:List UInt8) (hl:l.length≤1048576):w0a l=some ((VAa 0 l).elim 0 fun b=> bif b then 11 else 1):=by
 unfold w0a
 have:=zWb (fun b:Bool=> bif b then (11:Int) else 1) l (body:=qKa l) (fun c=> by unfold qKa;rw [qda];rfl) (fun c p x r h hc=> by
  have hx:l[p.length]? =some x:=by simp [h]
  have hi:=kTa hx
  unfold qKa vna Kqa
  dsimp only
  rw [vra hx,k3a hx]
  simp only [cond_true,Option.bind_some,Kea x 13 (by decide),Kea x 10 (by decide),sc p.length (by omega),sc (p.length+1) (by omega),sc c (by omega)]
  rw [next_is h hl]
  have h9:decide ((998:Int) < ((c+1:Nat):Int))=decide (998 < c+1):=by rw [Bool.eq_iff_iff];simp;omega
  rw [h9]
  by_cases h98:998 < c+1 <;> simp only [h98,decide_true,decide_false,if_true,if_false] <;> cases x==13 <;> cases x==10 <;> cases r.head? ==some 10 <;> rfl) l.length l [] 0 (Nat.le_refl _) rfl (by omega)
 have h2:iter (qKa l) (0,0)=_:=this
 rw [h2]
 cases VAa 0 l with
 | none=> rfl
 | some b=> cases b <;> rfl
def bodyF (l:List UInt8):zsa:=(VAa 0 l).elim ⟨0,0⟩ fun b=> bif b then ⟨11, -5⟩ else ⟨1, -6⟩
theorem KVa (l:List UInt8) (hl:l.length≤1048576):vQa l=some (bodyF l):=by
 unfold vQa bodyF
 rw [VBa l hl]
 cases VAa 0 l with
 | none=> rfl
 | some b=> cases b <;> rfl
def msgF (m:zva):zsa:=if (Vza m.Fields).Code !=0 then Vza m.Fields else if 12000 < (zoa m).length then ⟨1, -4⟩ else bodyF m.Body
def yZa (m:zva):Prop:=smallF m.Fields∧m.Body.length≤1048576
theorem wka (m:zva) (h:yZa m):kNa m=some (msgF m):=by
 obtain ⟨h1,h2⟩:=h
 unfold kNa msgF
 rw [Zoa _ h1]
 simp only [Option.bind_some,z5a,zza,KVa _ h2]
 cases hc:(Vza m.Fields).Code !=0 with
 | true=> rfl
 | false=>
  obtain ⟨q1,q2,q3⟩:=QRa m.Fields (by simpa using hc)
  rw [yta m h2 (by omega) q3]
  simp only [Option.bind_some,cond_false,Bool.false_eq_true,if_false]
  have:decide ((12000:Int) < ((zoa m).length:Int))=decide (12000 < (zoa m).length):=by generalize (zoa m).length=n;rw [Bool.eq_iff_iff];simp;omega
  rw [this]
  by_cases hb:12000 < (zoa m).length <;> simp [hb]
end Go.Proofs.YtjnmamghadpedaaGreatDoor
namespace Go.Proofs.YtjnmamghadpedaaGreatDoor
open Go.RowKit
set_option maxHeartbeats 1000000
instance:DecidableEq zca:=fun a b=> decidable_of_iff (a.Address=b.Address∧a.Notify=b.Notify) (by cases a;cases b;simp)
instance:DecidableEq zsa:=fun a b=> decidable_of_iff (a.Code=b.Code∧a.Index=b.Index) (by cases a;cases b;simp)
instance:DecidableEq zFa:=fun a b=> decidable_of_iff (a.From=b.From∧a.To=b.To∧a.Id=b.Id) (by cases a;cases b;simp)
end Go.Proofs.YtjnmamghadpedaaGreatDoor
namespace Go.Proofs.YtjnmamghadpedaaGreatDoor
open Go.RowKit
set_option maxHeartbeats 1000000
def KWa (s:Str) (r:zca):Bool:=r.Address==s
def hasA (out:List zca) (s:Str):Bool:=out.any (KWa s)
def putR (out:List zca) (r:zca):List zca:=if hasA out r.Address then out.map (fun x=> if KWa r.Address x then ⟨x.Address,iOr x.Notify r.Notify⟩ else x) else out++ [r]
end Go.Proofs.YtjnmamghadpedaaGreatDoor
namespace Go.Proofs.YtjnmamghadpedaaGreatDoor
open Go.RowKit
set_option maxHeartbeats 1000000
def posA (out:List zca) (s:Str):Option Nat:=out.findIdx? (KWa s)
theorem posA_has (out:List zca) (s:Str):(posA out s).isSome=hasA out s:=by unfold posA hasA;exact List.findIdx?_isSome
theorem posA_app (out:List zca) (r:zca) (s:Str) (h:hasA out r.Address=false):posA (out++ [r]) s=if r.Address==s then some out.length else posA out s:=by
 unfold posA
 rw [List.findIdx?_append]
 by_cases hs:(r.Address==s)=true
 ·rw [if_pos hs]
  have e:r.Address=s:=beq_iff_eq.1 hs
  subst e
  have:out.findIdx? (KWa r.Address)=none:=by
   have:=posA_has out r.Address
   rw [h] at this
   unfold posA at this
   simpa using this
  rw [this]
  simp [KWa]
 ·rw [if_neg hs]
  have:KWa s r=false:=by unfold KWa;simpa using hs
  simp [List.findIdx?_cons,this]
theorem posA_map (out:List zca) (f:zca→zca) (hf:∀x,(f x).Address=x.Address) (s:Str):posA (out.map f) s=posA out s:=by
 unfold posA
 rw [List.findIdx?_map]
 congr 1
 funext x
 simp [Function.comp,KWa,hf]
structure MInv (i:Nat) (out:List zca) (m:List (Str × Int)):Prop where
 len:out.length≤i
 nd:(out.map (·.Address)).Nodup
 mp:∀s,mget m s=(posA out s).map fun k=> ((k:Nat):Int)
theorem MInv.put {i:Nat} {out:List zca} {m:List (Str × Int)} (h:MInv i out m) (r:zca):MInv (i+1) (putR out r) (if hasA out r.Address then m else mput m r.Address (out.length:Int)):=by
 unfold putR
 cases hh:hasA out r.Address with
 | true=>
  simp only [if_true]
  have hf:∀x:zca,(if KWa r.Address x then (⟨x.Address,iOr x.Notify r.Notify⟩:zca) else x).Address=x.Address:=by intro x;split <;> rfl
  refine ⟨by simp;have:=h.len;omega, ?_,fun s=> ?_⟩
  ·rw [List.map_map,show ((·.Address) ∘ fun x:zca=> if KWa r.Address x then (⟨x.Address,iOr x.Notify r.Notify⟩:zca) else x)=(·.Address) from funext hf];exact h.nd
  ·rw [posA_map _ _ hf];exact h.mp s
 | false=>
  simp only [Bool.false_eq_true,if_false]
  refine ⟨by simp;exact h.len, ?_,fun s=> ?_⟩
  ·rw [List.map_append,List.nodup_append]
   refine ⟨h.nd,by simp, ?_⟩
   intro a ha b hb
   simp at hb;subst hb
   rintro rfl
   obtain ⟨x,hx,hxe⟩:=List.mem_map.1 ha
   unfold hasA at hh
   rw [List.any_eq_false] at hh
   exact hh x hx (by simp [KWa,hxe])
  ·rw [Jya,posA_app _ _ _ hh,h.mp s]
   by_cases hs:(r.Address==s)=true
   ·rw [if_pos hs,if_pos hs];rfl
   ·rw [if_neg hs,if_neg hs]
end Go.Proofs.YtjnmamghadpedaaGreatDoor
namespace Go.Proofs.YtjnmamghadpedaaGreatDoor
open Go.RowKit
end Go.Proofs.YtjnmamghadpedaaGreatDoor
namespace Go.Proofs.YtjnmamghadpedaaGreatDoor
open Go.RowKit
set_option maxHeartbeats 1000000
theorem zXb {m:zva} (h:zva.bk m≤1048576):yZa m:=by
 unfold zva.bk at h
 have h1:=jPa (bk:=zfa.bk) (fun x=> by unfold zfa.bk;omega) m.Fields
 have h2:=jPa (bk:=fun _:UInt8=> 1) (fun x=> by simp) m.Body
 refine ⟨⟨by omega,fun f hf=> ?_⟩,by omega⟩
 have h5:=zLb (bk:=zfa.bk) hf
 have h6:zfa.bk f=f.Name.length+1+(f.Value.length+1)+1:=rfl
 omega
def Kfa (m:kla):zsa:=if (envF m.Envelope).Code !=0 then envF m.Envelope else if (msgF m.Message).Code !=0 then ⟨(msgF m.Message).Code, -30⟩ else ⟨0,0⟩
theorem ZMa (m:kla) (h1:Zka m.Envelope) (h2:yZa m.Message):qRa m=some (Kfa m):=by
 unfold qRa Kfa
 rw [jma _ h1,wka _ h2]
 simp only [Option.bind_some,z5a,zza,zPa]
 cases (envF m.Envelope).Code !=0 <;> cases (msgF m.Message).Code !=0 <;> rfl
end Go.Proofs.YtjnmamghadpedaaGreatDoor
namespace Go.Proofs.YtjnmamghadpedaaGreatDoor
open Go.RowKit
set_option maxHeartbeats 1000000
end Go.Proofs.YtjnmamghadpedaaGreatDoor
namespace Go.Proofs.YtjnmamghadpedaaGreatDoor
open Go.RowKit
set_option maxHeartbeats 1000000
theorem Wla {m:kla} (h:(Kfa m).Code=0):(envF m.Envelope).Code=0∧(msgF m.Message).Code=0:=by
 unfold Kfa at h
 by_cases h1:(envF m.Envelope).Code=0
 ·refine ⟨h1, ?_⟩
  have e:((envF m.Envelope).Code !=0)=false:=by simp [h1]
  rw [e] at h
  simp only [Bool.false_eq_true,if_false] at h
  cases hc:(msgF m.Message).Code !=0 with
  | false=> simpa using hc
  | true=> rw [hc] at h;simpa using h
 ·have e:((envF m.Envelope).Code !=0)=true:=by simpa using h1
  rw [e] at h
  simp only [if_true] at h
  exact absurd h h1
theorem Wma {m:zva} (h:(msgF m).Code=0):(Vza m.Fields).Code=0:=by
 unfold msgF at h
 cases hc:(Vza m.Fields).Code !=0 with
 | false=> simpa using hc
 | true=> rw [hc] at h;simpa using h
end Go.Proofs.YtjnmamghadpedaaGreatDoor
namespace Go.Proofs.YtjnmamghadpedaaGreatDoor
open Go.RowKit
set_option maxHeartbeats 1000000
instance:DecidableEq zfa:=fun a b=> decidable_of_iff (a.Name=b.Name∧a.Value=b.Value) (by cases a;cases b;simp)
instance:DecidableEq zva:=fun a b=> decidable_of_iff (a.Fields=b.Fields∧a.Body=b.Body) (by cases a;cases b;simp)
instance:DecidableEq kla:=fun a b=> decidable_of_iff (a.Envelope=b.Envelope∧a.Message=b.Message) (by cases a;cases b;simp)
end Go.Proofs.YtjnmamghadpedaaGreatDoor
namespace Go.Proofs.YtjnmamghadpedaaGreatDoor
open Go.RowKit
set_option maxHeartbeats 1000000
end Go.Proofs.YtjnmamghadpedaaGreatDoor
namespace Go.Proofs.YtjnmamghadpedaaGreatDoor
open Go.RowKit
set_option maxHeartbeats 1000000
end Go.Proofs.YtjnmamghadpedaaGreatDoor
namespace Go.Proofs.YtjnmamghadpedaaGreatDoor
open Go.RowKit
set_option maxHeartbeats 1000000
end Go.Proofs.YtjnmamghadpedaaGreatDoor
namespace Go.Proofs.YtjnmamghadpedaaGreatDoor
open Go.RowKit
set_option maxHeartbeats 2000000
theorem and_some (a b:Bool):(bif a then some b else some false:Option Bool)=some (a && b):=by cases a <;> rfl
theorem or_some (a b:Bool):(bif a then some true else some b:Option Bool)=some (a || b):=by cases a <;> rfl
def KXa (c:zra):Bool:=(c.Verb==1 || c.Name==([]:Str)) && (c.Verb==2 || c.Verb==3 || c.Address==([]:Str)) && (c.Verb==2 || c.Verb==5 || c.Size==0) && (c.Verb==3 || c.Notify==0) && (c.Verb==5 || c.Last==false)
def cmdF (c:zra):zsa:=
 bif decide (c.Verb < 1) || decide (8 < c.Verb) then ⟨4, -2⟩ else bif !KXa c then ⟨5, -3⟩ else bif c.Verb==1 && !yXa c.Name then ⟨10, -4⟩ else
 bif (c.Verb==3 || (c.Verb==2 && c.Address !=([]:Str))) && !vXa c.Address then ⟨10, -5⟩ else bif decide (c.Size < 0) || decide (1000000 < c.Size) then ⟨3, -6⟩ else
 bif !yYa c.Notify then ⟨3, -7⟩ else ⟨0,0⟩
theorem five (v:Int):v=1∨v=2∨v=3∨v=5∨((v==1)=false∧(v==2)=false∧(v==3)=false∧(v==5)=false):=by
 simp only [beq_eq_false_iff_ne]
 omega
theorem used_eq (c:zra):∃u,vRa c=some u∧jia [(c.Verb==u.Verb),(c.Name==u.Name),(c.Address==u.Address),(c.Size==u.Size),(c.Notify==u.Notify),(c.Last==u.Last)]=KXa c:=by
 obtain ⟨v,n,a,s,o,l⟩:=c
 rcases five v with rfl | rfl | rfl | rfl | ⟨h1,h2,h3,h5⟩
 ·exact ⟨⟨1,n, [],0,0,false⟩,rfl,by simp [jia,KXa,Bool.and_assoc]⟩
 ·exact ⟨⟨2, [],a,s,0,false⟩,rfl,by simp [jia,KXa,Bool.and_assoc]⟩
 ·exact ⟨⟨3, [],a,0,o,false⟩,rfl,by simp [jia,KXa,Bool.and_assoc]⟩
 ·exact ⟨⟨5, [], [],s,0,l⟩,rfl,by simp [jia,KXa,Bool.and_assoc]⟩
 ·refine ⟨⟨v, [], [],0,0,false⟩, ?_, ?_⟩
  ·unfold vRa
   dsimp only
   rw [h1,h2,h3,h5];rfl
  ·unfold KXa
   dsimp only
   rw [h1,h2,h3,h5]
   simp [jia,Bool.and_assoc]
def Yqa (c:zra):Prop:=c.Name.length≤1048576∧c.Address.length≤1048576
theorem jQa (c:zra) (h:Yqa c):qla c=some (cmdF c):=by
 obtain ⟨u,hu,he⟩:=used_eq c
 unfold qla cmdF
 rw [hu]
 simp only [Option.bind_some,he,yma _ h.1,q6a _ (show c.Address.length < 4294967281 by have:=h.2;omega),wIa,zza,zPa,and_some,or_some]
 cases decide (c.Verb < 1) || decide (8 < c.Verb) with
 | true=> rfl
 | false=>
  cases KXa c with
  | false=> rfl
  | true=>
   cases c.Verb==1 && !yXa c.Name with
   | true=> rfl
   | false=>
    cases (c.Verb==3 || (c.Verb==2 && c.Address !=([]:Str))) && !vXa c.Address with
    | true=> rfl
    | false=>
     cases decide (c.Size < 0) || decide (1000000 < c.Size) with
     | true=> rfl
     | false=> cases yYa c.Notify <;> rfl
structure ZNa (c:zra):Prop where
 verb:1≤c.Verb∧c.Verb≤8
 used:KXa c=true
 name:c.Verb=1→yXa c.Name=true
 addr:c.Verb=3∨(c.Verb=2∧c.Address≠ [])→vXa c.Address=true
 size:0≤c.Size∧c.Size≤1000000
 note:0≤c.Notify∧c.Notify≤7
theorem cmdF_ok {c:zra} (h:(cmdF c).Code=0):ZNa c∧cmdF c=⟨0,0⟩:=by
 unfold cmdF at h ⊢
 cases h1:decide (c.Verb < 1) || decide (8 < c.Verb) with
 | true=> rw [h1] at h;exact absurd h (show (4:Int)≠0 by decide)
 | false=>
  rw [h1] at h
  cases h2:KXa c with
  | false=> rw [h2] at h;exact absurd h (show (5:Int)≠0 by decide)
  | true=>
   rw [h2] at h
   cases h3:c.Verb==1 && !yXa c.Name with
   | true=> rw [h3] at h;exact absurd h (show (10:Int)≠0 by decide)
   | false=>
    rw [h3] at h
    cases h4:(c.Verb==3 || (c.Verb==2 && c.Address !=([]:Str))) && !vXa c.Address with
    | true=> rw [h4] at h;exact absurd h (show (10:Int)≠0 by decide)
    | false=>
     rw [h4] at h
     cases h5:decide (c.Size < 0) || decide (1000000 < c.Size) with
     | true=> rw [h5] at h;exact absurd h (show (3:Int)≠0 by decide)
     | false=>
      rw [h5] at h
      cases h6:yYa c.Notify with
      | false=> rw [h6] at h;exact absurd h (show (3:Int)≠0 by decide)
      | true=>
       simp only [Bool.or_eq_false_iff,decide_eq_false_iff_not] at h1 h5
       unfold yYa at h6
       simp only [Bool.and_eq_true,decide_eq_true_eq] at h6
       refine ⟨⟨by omega,h2,fun hv=> ?_,fun hv=> ?_,by omega,h6⟩,rfl⟩
       ·rw [hv] at h3
        simpa using h3
       ·cases ha:vXa c.Address with
        | true=> rfl
        | false=>
         rw [ha] at h4
         rcases hv with hv | ⟨hv,hn⟩
         ·rw [hv] at h4;simp at h4
         ·rw [hv] at h4
          simp at h4
          exact absurd h4 hn
def wordL:List Str:= [[104,101,108,108,111], [109,97,105,108], [114,99,112,116], [100,97,116,97], [99,104,117,110,107], [114,101,115,101,116], [110,111,111,112], [113,117,105,116]]
def condL:List Str:= [[110,101,118,101,114], [102,97,105,108,117,114,101], [100,101,108,97,121], [102,97,105,108,117,114,101,44,100,101,108,97,121], [115,117,99,99,101,115,115], [102,97,105,108,117,114,101,44,115,117,99,99,101,115,115], [100,101,108,97,121,44,115,117,99,99,101,115,115], [102,97,105,108,117,114,101,44,100,101,108,97,121,44,115,117,99,99,101,115,115]]
def JGa (v:Int):Str:=wordL.getD (v - 1).toNat []
def condT (n:Int):Str:=condL.getD n.toNat []
def argT (c:zra):List Str:=
 if c.Verb=1 then [c.Name] else if c.Verb=2 then ([60]++c.Address++ [62])::(if c.Size=0 then [] else [[115,105,122,101,61]++Lib.decDigits c.Size.toNat]) else
 if c.Verb=3 then ([60]++c.Address++ [62])::(if c.Notify=1 then [] else [[110,111,116,105,102,121,61]++condT c.Notify]) else
 if c.Verb=5 then Lib.decDigits c.Size.toNat::(if c.Last then [[108,97,115,116]] else []) else []
def Qna (w:Str) (l:List Str):Str:=w++(l.map fun s=> (32:UInt8)::s).flatten
def cmdT (c:zra):Str:=Qna (JGa c.Verb) (argT c)
def condsV:zia × zia × zia:=((zia.mk 1 (([102,97,105,108,117,114,101]:Str))),(zia.mk 2 (([100,101,108,97,121]:Str))),(zia.mk 4 (([115,117,99,99,101,115,115]:Str))))
instance:DecidableEq (Step (Int × List Str) (List Str)):=fun a b=> match a,b with
 | .cont x, .cont y=> decidable_of_iff (x=y) (by simp)
 | .out x, .out y=> decidable_of_iff (x=y) (by simp)
 | .cont x, .out y=> isFalse (by simp)
 | .out x, .cont y=> isFalse (by simp)
def JHa (n:Nat):List Str:=(if n % 2=1 then [[102,97,105,108,117,114,101]] else [])++(if n / 2 % 2=1 then [[100,101,108,97,121]] else [])++(if n / 4 % 2=1 then [[115,117,99,99,101,115,115]] else [])
theorem zYb:∀n:Fin 8,jha (vFa (n.val:Int) condsV) 4 (0, [])=some (JHa n.val):=by decide+kernel
theorem Wna:∀n:Fin 8,(if JHa n.val= [] then ([110,101,118,101,114]:Str) else Lib.join (JHa n.val) [44])=condL.getD n.val []∧(JHa n.val).length≤3∧(condL.getD n.val []).length≤100:=by decide+kernel
theorem ZOa {n:Int} (h:0≤n∧n≤7):qTa n=some (condT n):=by
 have h1:=zYb ⟨n.toNat,by omega⟩
 obtain ⟨h2,h3,h4⟩:=Wna ⟨n.toNat,by omega⟩
 dsimp only at h1 h2 h3 h4
 rw [show ((n.toNat:Nat):Int)=n by omega] at h1
 unfold qTa
 have hc:qqa=some condsV:=rfl
 rw [hc]
 simp only [Option.bind_some]
 rw [jXa.2 ⟨4,h1⟩]
 simp only [Option.bind_some]
 unfold condT
 by_cases he:JHa n.toNat= []
 ·rw [if_pos he] at h2
  rw [he,←h2]
  rfl
 ·rw [if_neg he] at h2
  have e:(((JHa n.toNat).length:Int)==0)=false:=by
   rw [beq_eq_false_iff_ne]
   have:=List.length_pos_iff.2 he
   omega
  rw [e]
  simp only [cond_false]
  unfold qBa
  rw [if_pos ⟨by omega,by rw [h2];omega⟩,h2]
  rfl
theorem Woa {n:Int} (h:0≤n∧n≤7):(condT n).length≤100:=(Wna ⟨n.toNat,by omega⟩).2.2
theorem zZb:∀k:Fin 8,wordL[k.val]? =some (JGa ((k.val:Int)+1))∧(JGa ((k.val:Int)+1)).length≤5:=by decide
theorem YPa {v:Int} (h:1≤v∧v≤8):idx wordL (w64 (v - 1))=some (JGa v)∧(JGa v).length≤5:=by
 have:=zZb ⟨(v - 1).toNat,by omega⟩
 dsimp only at this
 rw [show (((v - 1).toNat:Nat):Int)+1=v by omega] at this
 rw [qfa (by omega) (by omega),show v - 1=(((v - 1).toNat:Nat):Int) by omega,yVa]
 exact this
theorem Kga:v4a=some (([104,101,108,108,111]:Str),([109,97,105,108]:Str),([114,99,112,116]:Str),([100,97,116,97]:Str),([99,104,117,110,107]:Str),([114,101,115,101,116]:Str),([110,111,111,112]:Str),([113,117,105,116]:Str)):=rfl
theorem addr_len {a:Str} (h:vXa a=true):a.length≤121:=by
 unfold vXa at h
 simp only [Bool.and_eq_true,decide_eq_true_eq] at h
 obtain ⟨⟨⟨⟨h1,h2⟩,h3⟩,h4⟩,h5⟩:=h
 unfold domP at h5
 simp only [Bool.and_eq_true,decide_eq_true_eq,List.length_drop] at h5
 omega
theorem KYa {c:zra} (ok:ZNa c):c.Address.length≤121:=by
 by_cases h:c.Address= []
 ·rw [h];simp
 ·refine addr_len (ok.addr ?_)
  have hu:=ok.used
  unfold KXa at hu
  simp only [Bool.and_eq_true,Bool.or_eq_true,beq_iff_eq] at hu
  rcases hu.1.1.1.2 with (h2 | h2) | h2
  ·exact .inr ⟨h2,h⟩
  ·exact .inl h2
  ·exact absurd h2 h
theorem Kha (c:zra) (h:Yqa c):vpa c=some (bif (cmdF c).Code !=0 then ([],cmdF c) else (cmdT c,⟨0,0⟩)):=by
 unfold vpa
 rw [jQa c h,Kga]
 simp only [Option.bind_some,z5a,zPa]
 cases hc:(cmdF c).Code !=0 with
 | true=> rfl
 | false=>
  obtain ⟨ok,_⟩:=cmdF_ok (c:=c) (by simpa using hc)
  obtain ⟨hw,hwl⟩:=YPa ok.verb
  have hal:=KYa ok
  have hs:=ok.size
  simp only [cond_false]
  rw [show ([([104,101,108,108,111]:Str),([109,97,105,108]:Str),([114,99,112,116]:Str),([100,97,116,97]:Str),([99,104,117,110,107]:Str),([114,101,115,101,116]:Str),([110,111,111,112]:Str),([113,117,105,116]:Str)]:List Str)=wordL from rfl,hw]
  simp only [Option.bind_some]
  have hit:kEa c.Size=some (Lib.decDigits c.Size.toNat):=by
   have:=KOa c.Size.toNat (by omega)
   rw [show ((c.Size.toNat:Nat):Int)=c.Size by omega] at this
   exact this
  have hdl:=Vqa 6 c.Size.toNat (by omega)
  have hnt:=Woa ok.note
  unfold cmdT
  generalize hW:JGa c.Verb=W at hwl ⊢
  rcases five c.Verb with h1 | h1 | h1 | h1 | ⟨h1,h2,h3,h5⟩
  ·have hn:=ok.name h1
   have hnl:=(KRa hn).2
   unfold argT
   rw [if_pos h1,h1]
   simp only [show ((1:Int)==1)=true from rfl,cond_true]
   rw [vUa (by simp;omega)]
   simp only [Option.bind_some]
   rw [vUa (by simp;omega)]
   simp [Qna]
  ·unfold argT
   rw [if_neg (by omega),if_pos h1,h1]
   simp only [show ((2:Int)==1)=false from rfl,show ((2:Int)==2)=true from rfl,cond_true,cond_false]
   rw [vUa (by simp;omega)]
   simp only [Option.bind_some]
   rw [vUa (by simp;omega)]
   simp only [Option.bind_some]
   rw [vUa (by simp;omega)]
   simp only [Option.bind_some]
   by_cases hz:c.Size=0
   ·rw [if_pos hz,hz]
    simp [Qna]
   ·have:(c.Size !=0)=true:=by simpa using hz
    rw [if_neg hz,this,hit]
    simp only [cond_true,Option.bind_some]
    rw [vUa (by simp;omega)]
    simp only [Option.bind_some]
    rw [vUa (by simp;omega)]
    simp [Qna]
  ·unfold argT
   rw [if_neg (by omega),if_neg (by omega),if_pos h1,h1]
   simp only [show ((3:Int)==1)=false from rfl,show ((3:Int)==2)=false from rfl,show ((3:Int)==3)=true from rfl,cond_true,cond_false]
   rw [vUa (by simp;omega)]
   simp only [Option.bind_some]
   rw [vUa (by simp;omega)]
   simp only [Option.bind_some]
   rw [vUa (by simp;omega)]
   simp only [Option.bind_some]
   by_cases hz:c.Notify=1
   ·rw [if_pos hz,hz]
    simp [Qna]
   ·have:(c.Notify !=1)=true:=by simpa using hz
    rw [if_neg hz,this,ZOa ok.note]
    simp only [cond_true,Option.bind_some]
    rw [vUa (by simp;omega)]
    simp only [Option.bind_some]
    rw [vUa (by simp;omega)]
    simp [Qna]
  ·unfold argT
   rw [if_neg (by omega),if_neg (by omega),if_neg (by omega),if_pos h1,h1]
   simp only [show ((5:Int)==1)=false from rfl,show ((5:Int)==2)=false from rfl,show ((5:Int)==3)=false from rfl,show ((5:Int)==5)=true from rfl,cond_true,cond_false,hit,Option.bind_some]
   rw [vUa (by simp;omega)]
   simp only [Option.bind_some]
   rw [vUa (by simp;omega)]
   simp only [Option.bind_some]
   cases c.Last with
   | true=>
    simp only [cond_true]
    rw [vUa (by simp;omega)]
    simp [Qna]
   | false=> simp [Qna]
  ·unfold argT
   rw [if_neg (by simpa using h1),if_neg (by simpa using h2),if_neg (by simpa using h3),if_neg (by simpa using h5),h1,h2,h3,h5]
   simp [Qna]
end Go.Proofs.YtjnmamghadpedaaGreatDoor
namespace Go.Proofs.YtjnmamghadpedaaGreatDoor
open Go.RowKit
set_option maxHeartbeats 1000000
def rlnC (c:UInt8):Bool:=c==13 || c==10
def digC (c:UInt8):Bool:=decide (48≤c) && decide (c≤57)
def smLn (l:List Str):Prop:=l.length≤1048576∧∀s∈l,s.length≤1048576
theorem YQa (s:Str) (hs:s.length≤1048576):zBa s [13,10]=some (s.any rlnC):=by
 rw [vya s _ hs (by decide) (by decide) (by decide)]
 simp only [Option.some.injEq]
 congr 1
 funext c
 rw [Bool.eq_iff_iff]
 simp [rlnC]
theorem lt48 (c:UInt8):decide ((c.toNat:Int) < 48)= !decide ((48:UInt8)≤c):=by
 rw [←KPa 48 c (by decide),Bool.eq_iff_iff];simp
theorem gt57 (c:UInt8):decide ((57:Int) < (c.toNat:Int))= !decide (c≤(57:UInt8)):=by
 rw [←KQa 57 c (by decide),Bool.eq_iff_iff];simp
theorem KZa (s:Str) (hs:s.length≤1048576):qAa s=some (s.all digC && s !=([]:Str)):=by
 unfold qAa
 rw [kra s (fun _ c=> if !digC c then some false else none) (.inl ()) .inr,jfa,Yja]
 ·cases s.all digC <;> rfl
 ·unfold voa;rw [qda];rfl
 ·intro i c hc
  have hi:=kTa hc
  unfold voa
  rw [vra hc,k3a hc]
  simp only [cond_true,Option.bind_some,lt48,gt57,sc i (by omega)]
  unfold digC
  cases decide ((48:UInt8)≤c) <;> cases decide (c≤(57:UInt8)) <;> rfl
def num3 (a b c:UInt8):Nat:=((a.toNat - 48) * 10+(b.toNat - 48)) * 10+(c.toNat - 48)
theorem YRa {c:UInt8}:digC c=true↔48≤c.toNat∧c.toNat≤57:=by
 unfold digC
 rw [Bool.and_eq_true,decide_eq_true_eq,decide_eq_true_eq,UInt8.le_iff_toNat_le,UInt8.le_iff_toNat_le]
 exact Iff.rfl
theorem y0a {c:UInt8} (h:digC c=true):Lib.digitVal c=some (c.toNat - 48):=by
 unfold Lib.digitVal;rw [if_pos (YRa.1 h)]
theorem atoi_3 {a b c:UInt8} (ha:digC a=true) (hb:digC b=true) (hc:digC c=true):k7a [a,b,c]=some ((num3 a b c:Int),false):=by
 have h1:=YRa.1 ha
 have n1:(a==45)=false:=by rw [beq_eq_false_iff_ne];intro e;subst e;simp at h1
 have n2:(a==43)=false:=by rw [beq_eq_false_iff_ne];intro e;subst e;simp at h1
 have e:Lib.atoi [a,b,c]=some (num3 a b c:Int):=by
  unfold Lib.atoi
  dsimp only
  rw [n1,n2]
  simp [Lib.decNat,Lib.decFrom,y0a ha,y0a hb,y0a hc,num3]
 unfold k7a
 rw [if_pos (show ([a,b,c]:Str).length≤18 by simp),e]
def Z7a (c:Int):Bool:=decide (200≤c) && decide (c≤599)
theorem Zpa (c:Int):v8a c=some (Z7a c):=by unfold v8a Z7a;cases decide (200≤c) <;> rfl
def YSa (i:Nat) (s:Str):Option zsa:=if 500 < s.length then some ⟨1,i⟩ else if s.any rlnC then some ⟨5,i⟩ else none
def jBa (r:kva):zsa:=if !Z7a r.Code then ⟨3, -1⟩ else if r.Lines.length < 1∨20 < r.Lines.length then ⟨2, -2⟩ else (z6a YSa 0 r.Lines).getD ⟨0,0⟩
theorem dec500 (s:Str):decide ((500:Int) < (s.length:Int))=decide (500 < s.length):=by generalize s.length=n;rw [Bool.eq_iff_iff];simp;omega
theorem ZPa (r:kva) (h:smLn r.Lines):qSa r=some (jBa r):=by
 obtain ⟨h1,h2⟩:=h
 unfold qSa jBa
 rw [kra r.Lines YSa (.inl ()) .inr (by unfold qLa;rw [qda];rfl) (fun i s hs=> by
  have hi:=kTa hs
  have hsl:=h2 s (List.mem_of_getElem? hs)
  unfold qLa YSa
  rw [vra hs,k3a hs]
  simp only [cond_true,Option.bind_some,dec500,YQa s hsl,zza,sc i (by omega)]
  by_cases h500:500 < s.length
  ·simp [h500]
  ·simp only [h500,decide_false,cond_false,if_false]
   cases s.any rlnC <;> rfl)]
 simp only [Option.bind_some,Zpa,zza,zPa,ZLa]
 cases Z7a r.Code with
 | false=> rfl
 | true=>
  simp only [Bool.not_true,cond_false,Bool.false_eq_true,if_false]
  by_cases ha:r.Lines.length < 1
  ·rw [if_pos (Or.inl ha),decide_eq_true (by omega)];rfl
  ·rw [decide_eq_false (by omega)]
   by_cases hb:20 < r.Lines.length
   ·rw [if_pos (Or.inr hb),decide_eq_true (by omega)];rfl
   ·rw [if_neg (by omega),decide_eq_false (by omega)];rfl
structure ROk (r:kva):Prop where
 code:∃u:Nat,r.Code=u∧200≤u∧u≤599
 len:1≤r.Lines.length∧r.Lines.length≤20
 lines:∀s∈r.Lines,s.length≤500∧s.any rlnC=false
theorem z0b {r:kva} (h:ROk r):jBa r=⟨0,0⟩:=by
 obtain ⟨⟨u,hu,h1,h2⟩,hl,hx⟩:=h
 unfold jBa
 have hc:Z7a r.Code=true:=by unfold Z7a;rw [hu];simp;omega
 rw [hc,if_neg (by simp),if_neg (by omega)]
 rw [vGa.2 (fun i s hs=> by
  obtain ⟨a,b⟩:=hx s (List.mem_of_getElem? hs)
  unfold YSa;rw [if_neg (by omega),b];rfl)]
 rfl
theorem Qoa (r:kva) (h:smLn r.Lines):wia r=some (if (jBa r).Code≠0 then (0,jBa r) else (iQuo r.Code 100,⟨0,0⟩)):=by
 unfold wia
 rw [ZPa r h]
 simp only [Option.bind_some,z5a,zPa]
 by_cases hc:(jBa r).Code=0
 ·have e:((jBa r).Code !=0)=false:=by simp [hc]
  rw [e,if_neg (by simp [hc])];rfl
 ·have e:((jBa r).Code !=0)=true:=by simpa using hc
  rw [e,if_pos hc];rfl
end Go.Proofs.YtjnmamghadpedaaGreatDoor
namespace Go.Proofs.YtjnmamghadpedaaGreatDoor
open Go.RowKit
set_option maxHeartbeats 1000000
def rdQ:Str→Option Nat
 | a::b::c::d::r=> if (d==45 || d==32) && (digC a && digC b && digC c) && !((a::b::c::d::r).any rlnC) && (decide (200≤num3 a b c) && decide (num3 a b c≤599)) then some (num3 a b c) else none
 | _=> none
theorem z1b {s:Str} {n:Nat} (h:rdQ s=some n):4≤s.length∧200≤n∧n≤599:=by
 unfold rdQ at h
 split at h
 ·split at h
  ·rename_i hc
   cases h
   simp only [Bool.and_eq_true,decide_eq_true_eq] at hc
   exact ⟨by simp,hc.2.1,hc.2.2⟩
  ·cases h
 ·cases h
theorem rdQ_at {s:Str} {n:Nat} (h:rdQ s=some n):∃d,s[3]? =some d∧idx s 3=some d∧(d=45∨d=32):=by
 unfold rdQ at h
 split at h
 ·rename_i a b c d r
  split at h
  ·rename_i hc
   simp only [Bool.and_eq_true,Bool.or_eq_true,beq_iff_eq] at hc
   exact ⟨d,rfl,rfl,hc.1.1.1⟩
  ·cases h
 ·cases h
theorem u8_or (d:UInt8) {γ:Type} (X Y:γ):(bif ((d.toNat:Int) !=45) then (bif ((d.toNat:Int) !=32) then X else Y) else Y)=if (d==45 || d==32) then Y else X:=by
 rw [u8_ne d 45 (by decide),u8_ne d 32 (by decide)]
 unfold bne
 cases d==45 <;> cases d==32 <;> rfl
theorem cut03 (a b c d:UInt8) (r:Str):cut (a::b::c::d::r) 0 3=some [a,b,c]:=by
 have:=QLa (l:=a::b::c::d::r) (b:=3) (by simp)
 exact this
theorem cut4 (s:Str) (h:4≤s.length):cut s 4 (s.length:Int)=some (s.drop 4):=jya (a:=4) h
theorem VCa (s:Str) (hs:s.length≤1048576):∃v,w1a s=some v∧v.2.2.2=(rdQ s).isSome∧∀n,rdQ s=some n→v=((n:Int),s.drop 4,(s[3]? ==some 32),true):=by
 match s,hs with
 | [],_=> exact ⟨_,rfl,rfl,fun n h=> by cases h⟩
 | [_],_=> exact ⟨_,rfl,rfl,fun n h=> by cases h⟩
 | [_,_],_=> exact ⟨_,rfl,rfl,fun n h=> by cases h⟩
 | [_,_,_],_=> exact ⟨_,rfl,rfl,fun n h=> by cases h⟩
 | a::b::c::d::r,hs=>
  have e1:decide (((a::b::c::d::r).length:Int) < 4)=false:=by simp;omega
  have e2:idx (a::b::c::d::r) 3=some d:=rfl
  have e3:qAa [a,b,c]=some (digC a && digC b && digC c):=by
   have h:=KZa [a,b,c] (by simp)
   rw [h]
   show some ((digC a && (digC b && (digC c && true))) && true)=_
   rw [Bool.and_true,Bool.and_true,Bool.and_assoc]
  have e4:=YQa _ hs
  have e5:=cut4 (a::b::c::d::r) (by simp)
  unfold w1a
  rw [e1,e2,cut03,e4,e5]
  simp only [Option.bind_some,cond_false,e3,Zpa]
  rw [u8_or]
  have hr:rdQ (a::b::c::d::r)=if (d==45 || d==32) && (digC a && digC b && digC c) && !((a::b::c::d::r).any rlnC) && (decide (200≤num3 a b c) && decide (num3 a b c≤599)) then some (num3 a b c) else none:=rfl
  rw [hr]
  cases h1:(d==45 || d==32) with
  | false=> exact ⟨_,rfl,rfl,fun n h=> by simp at h⟩
  | true=>
   cases h2:(digC a && digC b && digC c) with
   | false=> exact ⟨_,rfl,rfl,fun n h=> by simp at h⟩
   | true=>
    cases h3:(a::b::c::d::r).any rlnC with
    | true=> exact ⟨_,rfl,rfl,fun n h=> by simp at h⟩
    | false=>
     have h2' :=h2
     rw [Bool.and_eq_true,Bool.and_eq_true] at h2'
     simp only [Bool.not_true,Bool.not_false,Bool.true_and,if_true,cond_false,Option.bind_some]
     rw [atoi_3 h2'.1.1 h2'.1.2 h2'.2]
     simp only [Option.bind_some]
     have e6:Z7a ((num3 a b c:Nat):Int)=(decide (200≤num3 a b c) && decide (num3 a b c≤599)):=by
      unfold Z7a
      congr 1
      ·rw [Bool.eq_iff_iff];simp;omega
      ·rw [Bool.eq_iff_iff];simp;omega
     rw [e6]
     cases h4:(decide (200≤num3 a b c) && decide (num3 a b c≤599)) with
     | false=> exact ⟨_,rfl,rfl,fun n h=> by simp at h⟩
     | true=>
      refine ⟨_,rfl,rfl,fun n h=> ?_⟩
      simp only [if_true,Option.some.injEq] at h
      subst h
      rw [Kea d 32 (by decide)]
      simp
abbrev PR:=kva × Int × zsa
def parP:List Str→Nat→List Str→Int→Option PR
 | [],_,_,_=> none
 | s::r,i,acc,prev=>
  if i=20 then some (⟨0, []⟩,0,⟨2,i⟩)
  else match rdQ s with
   | none=> some (⟨0, []⟩,0,⟨11,i⟩)
   | some n=>
    if 504 < s.length then some (⟨0, []⟩,0,⟨1,i⟩)
    else if 0 < i∧(n:Int)≠prev then some (⟨0, []⟩,0,⟨5,i⟩)
    else if s[3]? =some 32 then some (⟨n,acc++ [s.drop 4]⟩,((i+1:Nat):Int),⟨0,0⟩)
    else parP r (i+1) (acc++ [s.drop 4]) n
def wla (l:List Str):PR:=if 300 < l.length then (⟨0, []⟩,0,⟨2, -1⟩) else (parP l 0 [] 0).getD (⟨0, []⟩,0,⟨9, -2⟩)
theorem gt0 (i:Nat) (n:Nat) (prev:Int):(bif decide ((0:Int) < (i:Int)) then some ((n:Int) !=prev) else some false)=some (decide (0 < i∧(n:Int)≠prev)):=by
 by_cases h:0 < i
 ·rw [decide_eq_true (by omega:(0:Int) < (i:Int))]
  by_cases h2:(n:Int)=prev
  ·simp [h2]
  ·simp [h2,h]
 ·rw [decide_eq_false (by omega:¬(0:Int) < (i:Int))]
  simp [h]
theorem at32 (s:Str) (d:UInt8) (h:s[3]? =some d):(s[3]? ==some 32)=decide (s[3]? =some 32):=by
 rw [h,Bool.eq_iff_iff];simp
theorem eq20 (i:Nat):((i:Int)==20)=decide (i=20):=by rw [Bool.eq_iff_iff];simp;omega
def z2b (x:Str) (i:Nat) (acc:List Str) (prev:Int):Step (Int × List Str × Int) (Unit ⊕ PR):=
 if i=20 then .out (.inr (⟨0, []⟩,0,⟨2,i⟩))
 else match rdQ x with
 | none=> .out (.inr (⟨0, []⟩,0,⟨11,i⟩))
 | some n=>
  if 504 < x.length then .out (.inr (⟨0, []⟩,0,⟨1,i⟩))
  else if 0 < i∧(n:Int)≠prev then .out (.inr (⟨0, []⟩,0,⟨5,i⟩))
  else if x[3]? =some 32 then .out (.inr (⟨n,acc++ [x.drop 4]⟩,((i+1:Nat):Int),⟨0,0⟩))
  else .cont (((i+1:Nat):Int),acc++ [x.drop 4],(n:Int))
theorem JIa (l:List Str) {body:Int × List Str × Int→Option (Step (Int × List Str × Int) (Unit ⊕ PR))} (h0:∀acc prev,body ((l.length:Int),acc,prev)=some (.out (.inl ())))
  (h1:∀(i:Nat) x acc prev,l[i]? =some x→acc.length=i→body ((i:Int),acc,prev)=some (z2b x i acc prev)):iter body (0,([]:List Str),0)=some ((parP l 0 [] 0).elim (Sum.inl ()) Sum.inr):=by
 refine Jwa l (fun i (s:List Str × Int)=> ((i:Int),s.1,s.2)) (fun i r s=> (parP r i s.1 s.2).elim (Sum.inl ()) Sum.inr) (fun i _ s=> s.1.length=i) ?_ ?_ (([]:List Str),(0:Int)) rfl rfl
 ·intro s _
  exact h0 _ _
 ·intro p x q s hp hi
  obtain ⟨acc,prev⟩:=s
  dsimp only at hi ⊢
  rw [h1 p.length x acc prev (by rw [hp];simp) hi]
  unfold z2b
  rw [parP]
  by_cases h20:p.length=20
  ·rw [if_pos h20,if_pos h20];left;rfl
  ·rw [if_neg h20,if_neg h20]
   cases hr:rdQ x with
   | none=> left;rfl
   | some n=>
    dsimp only
    by_cases h504:504 < x.length
    ·rw [if_pos h504,if_pos h504];left;rfl
    ·rw [if_neg h504,if_neg h504]
     by_cases h5:0 < p.length∧(n:Int)≠prev
     ·rw [if_pos h5,if_pos h5];left;rfl
     ·rw [if_neg h5,if_neg h5]
      by_cases h32:x[3]? =some 32
      ·rw [if_pos h32,if_pos h32];left;rfl
      ·rw [if_neg h32,if_neg h32]
       exact Or.inr ⟨(acc++ [x.drop 4],(n:Int)),rfl,rfl,by simp [hi]⟩
theorem Qpa (l:List Str) (h:smLn l):wha l=some (wla l):=by
 unfold wha wla
 by_cases h300:300 < l.length
 ·rw [if_pos h300,decide_eq_true (by omega)];rfl
 ·rw [if_neg h300,decide_eq_false (by omega),JIa l]
  ·simp only [cond_false,Option.bind_some,zza]
   cases parP l 0 [] 0 <;> rfl
  ·intro acc prev
   unfold vKa
   dsimp only
   rw [qda];rfl
  ·intro i x acc prev hx hi
   have hle:=kTa hx
   have hxs:=h.2 x (List.mem_of_getElem? hx)
   obtain ⟨v,hv,hv1,hv2⟩:=VCa x hxs
   unfold vKa z2b
   dsimp only
   rw [vra hx,k3a hx]
   simp only [cond_true,Option.bind_some,hv,hv1,eq20,zza,zPa]
   by_cases h20:i=20
   ·rw [if_pos h20,decide_eq_true h20];rfl
   ·rw [if_neg h20,decide_eq_false h20]
    simp only [cond_false]
    cases hr:rdQ x with
    | none=> rfl
    | some n=>
     have hvn:=hv2 n hr
     subst hvn
     have hn:=z1b hr
     obtain ⟨d,hd,_,_⟩:=rdQ_at hr
     have e5:decide ((500:Int) < (((x.drop 4).length:Nat):Int))=decide (504 < x.length):=by
      rw [Bool.eq_iff_iff,List.length_drop,decide_eq_true_eq,decide_eq_true_eq];omega
     simp only [Option.isSome_some,Bool.not_true,cond_false,e5,gt0,Option.bind_some]
     by_cases h504:504 < x.length
     ·rw [decide_eq_true h504,if_pos h504];rfl
     ·rw [decide_eq_false h504,if_neg h504]
      simp only [cond_false]
      by_cases h5:0 < i∧(n:Int)≠prev
      ·rw [decide_eq_true h5,if_pos h5];rfl
      ·rw [decide_eq_false h5,if_neg h5]
       simp only [cond_false,Option.bind_some,bne_self_eq_false]
       rw [qVa (by simp;omega)]
       simp only [Option.bind_some,at32 x d hd,sc i (by omega)]
       by_cases h32:x[3]? =some 32
       ·rw [decide_eq_true h32,if_pos h32];rfl
       ·rw [decide_eq_false h32,if_neg h32];rfl
end Go.Proofs.YtjnmamghadpedaaGreatDoor
namespace Go.Proofs.YtjnmamghadpedaaGreatDoor
open Go.RowKit
def fl:List UInt8→List UInt8→List Str × List UInt8
 | cur, []=> ([],cur)
 | cur, [c]=> ([],cur++ [c])
 | cur,c::d::r=> if c=13∧d=10 then (cur::(fl [] r).1,(fl [] r).2) else fl (cur++ [c]) (d::r)
theorem z3b (cur r:List UInt8):fl cur (13::10::r)=(cur::(fl [] r).1,(fl [] r).2):=by rw [fl,if_pos ⟨rfl,rfl⟩]
theorem VDa {c d:UInt8} (h:¬(c=13∧d=10)) (cur r:List UInt8):fl cur (c::d::r)=fl (cur++ [c]) (d::r):=by rw [fl,if_neg h]
theorem K0a (c d:UInt8) (r:List UInt8):Lib.index (c::d::r) [13,10]=if c=13∧d=10 then 0 else if Lib.index (d::r) [13,10]= -1 then -1 else Lib.index (d::r) [13,10]+1:=by
 rw [Lib.index]
 by_cases h:c=13∧d=10
 ·obtain ⟨rfl,rfl⟩:=h;simp
 ·rw [if_neg h,if_neg]
  ·simp
  ·simp only [List.isPrefixOf,Bool.and_true,Bool.and_eq_true,beq_iff_eq]
   rintro ⟨rfl,rfl⟩;exact h ⟨rfl,rfl⟩
theorem z4b (l:List UInt8):∀cur,Lib.index l [13,10]= -1→fl cur l=([],cur++l):=by
 induction l with
 | nil=> intro cur _;simp [fl]
 | cons c r ih=>
  intro cur h
  match r,ih with
  | [],_=> simp [fl]
  | d::r,ih=>
   rw [K0a] at h
   have hg:=Lib.index_ge (d::r) [13,10]
   split at h
   ·cases h
   ·rename_i hn
    rw [VDa hn,ih]
    ·simp
    ·split at h
     ·assumption
     ·omega
theorem Yra (l:List UInt8):∀(cur:List UInt8) (k:Nat),Lib.index l [13,10]=(k:Int)→k+2≤l.length∧fl cur l=((cur++l.take k)::(fl [] (l.drop (k+2))).1,(fl [] (l.drop (k+2))).2):=by
 induction l with
 | nil=> intro cur k h;simp [Lib.index] at h
 | cons c r ih=>
  intro cur k h
  match r,ih with
  | [],_=> simp [Lib.index] at h
  | d::r,ih=>
   rw [K0a] at h
   have hg:=Lib.index_ge (d::r) [13,10]
   split at h
   ·rename_i hn
    obtain ⟨rfl,rfl⟩:=hn
    obtain rfl:k=0:=by omega
    rw [z3b];simp
   ·rename_i hn
    split at h
    ·omega
    ·obtain ⟨j,rfl⟩:∃j,k=j+1:=⟨k - 1,by omega⟩
     obtain ⟨h1,h2⟩:=ih (cur++ [c]) j (by omega)
     rw [VDa hn,h2]
     refine ⟨by simp at h1 ⊢;omega, ?_⟩
     simp
theorem z5b (l:List UInt8) (cur:List UInt8):((fl cur l).1.flatMap fun x=> x++ [13,10])++(fl cur l).2=cur++l:=by
 fun_induction fl cur l with
 | case1 cur=> simp
 | case2 cur c=> simp
 | case3 cur c d r h ih=> obtain ⟨rfl,rfl⟩:=h;simpa using ih
 | case4 cur c d r h ih=> simpa using ih
theorem fl_size (l:List UInt8) (cur:List UInt8):2 * (fl cur l).1.length+(fl cur l).2.length≤cur.length+l.length:=by
 fun_induction fl cur l with
 | case1 cur=> simp
 | case2 cur c=> simp
 | case3 cur c d r h ih=> simp at ih ⊢;omega
 | case4 cur c d r h ih=> simp at ih ⊢;omega
end Go.Proofs.YtjnmamghadpedaaGreatDoor
namespace Go.Proofs.YtjnmamghadpedaaGreatDoor
open Go.RowKit
end Go.Proofs.YtjnmamghadpedaaGreatDoor
namespace Go.Proofs.YtjnmamghadpedaaGreatDoor
open Go.RowKit
def dot0:Str→Bool
 | c::_=> c==46
 | []=> false
def QSa (l:Str):Str:=if dot0 l then 46::l else l
def y1a (ls:List Str):Str:=ls.flatMap fun x=> QSa x++ [13,10]
theorem VEa (l:Str):kHa l [46]=some (dot0 l):=by
 unfold kHa
 cases l with
 | nil=> rfl
 | cons c r=>
  have:cut (c::r) 0 ((([46]:List UInt8).length:Nat):Int)=some [c]:=by
   rw [QLa (by simp)];rfl
  simp only [this,qva,Option.bind_some]
  simp [dot0]
  rw [Bool.cond_eq_ite]
  simp
  omega
theorem jCa (l:Str) (hl:l.length≤9223372036854775807):kta l [13,10]=some (decide ([13,10] <:+l)):=by
 unfold kta
 by_cases h:2≤l.length
 ·have e:w64 ((l.length:Int) - ((([13,10]:List UInt8).length:Nat):Int))=((l.length - 2:Nat):Int):=w64_ns _ _ h hl
  rw [e,jya (by omega)]
  have:decide (((([13,10]:List UInt8).length:Nat):Int)≤(l.length:Int))=true:=by simp;omega
  simp only [this,cond_true,Option.bind_some,qva]
  congr 1
  rw [Bool.eq_iff_iff,decide_eq_true_iff,List.suffix_iff_eq_drop,beq_iff_eq]
  exact eq_comm
 ·have:decide (((([13,10]:List UInt8).length:Nat):Int)≤(l.length:Int))=false:=by simp;omega
  simp only [this,cond_false,Option.bind_some]
  congr 1
  symm
  simp only [decide_eq_false_iff_not]
  intro hs
  have:=hs.length_le
  simp at this
  omega
theorem QTa (l cur:List UInt8):(fl cur l).2= []↔(l= []∧cur= [])∨ [13,10] <:+l:=by
 fun_induction fl cur l with
 | case1 cur=> simp
 | case2 cur c=>
  simp
  intro h
  have:=h.length_le
  simp at this
 | case3 cur c d r h ih=>
  obtain ⟨rfl,rfl⟩:=h
  simp only [ih,List.suffix_cons_iff]
  simp
 | case4 cur c d r h ih=>
  rw [ih,List.suffix_cons_iff (a:=c)]
  simp
  intro h1 h2 _
  exact absurd ⟨h1.symm,h2.symm⟩ h
theorem QUa (x:Str):(QSa x).length≤x.length+1∧x.length≤(QSa x).length:=by unfold QSa;split <;> simp
theorem YTa (ls:List Str):(ls.flatMap fun x=> x++ [13,10]).length≥2 * ls.length:=by
 induction ls with
 | nil=> simp
 | cons x r ih=> simp at ih ⊢;omega
theorem K1a (ls:List Str):(y1a ls).length≤(ls.flatMap fun x=> x++ [13,10]).length+ls.length:=by
 induction ls with
 | nil=> simp [y1a]
 | cons x r ih=>
  have:=(QUa x).1
  unfold y1a at ih ⊢
  simp at ih ⊢
  omega
theorem JJa (a:List UInt8) (ha:a.length≤12000) (n:Nat):∀(at_:Nat) (out:List UInt8),at_≤a.length→a.length - at_=n→out.length≤2 * at_→
  iter (kDa a) ((at_:Int),out)=some (out++y1a (fl [] (a.drop at_)).1):=by
 induction n using Nat.strongRecOn with
 | _ n ih=>
  intro at_ out h1 h2 h3
  have hg:=Lib.index_ge (a.drop at_) [13,10]
  by_cases hi:Lib.index (a.drop at_) [13,10]= -1
  ·have hb:kDa a ((at_:Int),out)=some (.out out):=by
    unfold kDa
    simp only [jya h1,Option.bind_some,qwa]
    rw [if_pos (by simp;omega)]
    simp [hi]
   rw [zOa hb]
   simp [z4b _ [] hi,y1a]
  ·obtain ⟨k,hk⟩:∃k:Nat,Lib.index (a.drop at_) [13,10]=(k:Int):=⟨(Lib.index (a.drop at_) [13,10]).toNat,by omega⟩
   obtain ⟨hk2,hf⟩:=Yra _ [] k hk
   simp at hk2
   have hlen:(((a.drop at_).take k).length)=k:=by simp;omega
   have hd:=QUa ((a.drop at_).take k)
   have hb:kDa a ((at_:Int),out)=some (.cont (((at_+k+2:Nat):Int),out++(QSa ((a.drop at_).take k)++ [13,10]))):=by
    unfold kDa
    simp only [jya h1,Option.bind_some,qwa]
    rw [if_pos (by simp;omega)]
    simp (disch:=omega) only [hk,QKa,w64_nl,YNa,Option.bind_some,show ¬((k:Int) < 0) by omega,decide_false,cond_false]
    rw [show at_+k - at_=k by omega,show at_+(k+2)=at_+k+2 by omega]
    rw [VEa]
    unfold QSa
    cases dot0 ((a.drop at_).take k) with
    | false=>
     simp only [Option.bind_some,cond_false]
     rw [qVa (by omega)]
     simp only [Option.bind_some]
     rw [qVa (by simp;omega)]
     simp
    | true=>
     simp only [Option.bind_some,cond_true]
     rw [qVa (by simp;omega)]
     simp only [Option.bind_some]
     rw [qVa (by simp;omega)]
     simp only [Option.bind_some]
     rw [qVa (by simp;omega)]
     simp
   rw [z9a hb,ih (a.length - (at_+k+2)) (by omega) (at_+k+2) _ (by omega) rfl (by simp;omega),hf]
   simp [y1a,Nat.add_assoc]
theorem Qqa (a:List UInt8):q5a a=some (if 12000 < a.length then ([],⟨1, -1⟩) else if (fl [] a).2≠ [] then ([],⟨5, -2⟩) else (y1a (fl [] a).1++ [46,13,10],⟨0,0⟩)):=by
 unfold q5a
 by_cases h:12000 < a.length
 ·have:decide ((12000:Int) < (a.length:Int))=true:=by simp;omega
  simp only [this,cond_true,zpa,Option.bind_some,if_pos h]
 ·have:decide ((12000:Int) < (a.length:Int))=false:=by simp;omega
  simp only [this,cond_false,if_neg h]
  have hs:=fl_size a []
  have e:((0:Int),([]:List UInt8))=(((0:Nat):Int), []):=rfl
  have hl:=JJa a (by omega) _ 0 [] (by omega) rfl (by simp)
  rw [jCa _ (by omega),e,hl]
  have hj:((bif decide ((0:Int) < (a.length:Int)) then (some (decide ([13,10] <:+a))).bind fun v6=> some (!v6) else some false):Option Bool)=some (decide ((fl [] a).2≠ [])):=by
   have:=QTa a []
   simp at this
   by_cases h0:a= []
   ·simp [h0,fl]
   ·have h1:0 < a.length:=by cases a with
     | nil=> exact absurd rfl h0
     | cons c r=> simp
    simp [h1,this,h0]
  rw [hj]
  simp only [Option.bind_some]
  by_cases hr:(fl [] a).2= []
  ·have:=K1a (fl [] a).1
   have hjn:=z5b a []
   simp [hr] at hjn
   have hjl:=congrArg List.length hjn
   simp at hs
   rw [hr] at hs
   simp [hr,zQa]
   rw [qVa]
   ·simp
   ·simp at hs ⊢
    simp at hjl this
    omega
  ·simp [hr,zpa]
end Go.Proofs.YtjnmamghadpedaaGreatDoor
namespace Go.Proofs.YtjnmamghadpedaaGreatDoor
open Go.RowKit
def zCa (ls:List Str):Str:=ls.flatMap fun x=> x++ [13,10]
theorem ZQa (x:Str) (r:List Str):zCa (x::r)=x++13::10::zCa r:=by simp [zCa]
theorem z6b (x:Str) (r:List Str):(zCa (x::r)).length=x.length+2+(zCa r).length:=by simp [ZQa];omega
theorem VFa (a:List UInt8):zCa (fl [] a).1++(fl [] a).2=a:=z5b a []
theorem fl_joinN (a:List UInt8):(zCa (fl [] a).1).length+(fl [] a).2.length=a.length:=by
 have:=congrArg List.length (VFa a)
 simpa only [List.length_append] using this
end Go.Proofs.YtjnmamghadpedaaGreatDoor
namespace Go.Proofs.YtjnmamghadpedaaGreatDoor
open Go.RowKit
set_option maxHeartbeats 1000000
theorem recF_inv {l:List zca} (h:(recF l).Code=0):(∀r∈l,vXa r.Address=true∧yYa r.Notify=true)∧(l.map (·.Address)).Nodup:=by
 have hz:z6a (recQ l) 0 l=none:=by
  unfold recF at h
  cases hf:z6a (recQ l) 0 l with
  | none=> rfl
  | some f=>
   exfalso
   rw [hf] at h
   obtain ⟨i,x,hx,hq⟩:=jOa hf
   unfold recQ at hq
   split at hq
   ·cases hq;simp at h
   ·split at hq
    ·cases hq;simp at h
    ·split at hq
     ·cases hq;simp at h
     ·cases hq
 rw [vGa] at hz
 have key:∀(i:Nat) r,l[i]? =some r→vXa r.Address=true∧yYa r.Notify=true∧(l.take i).any (fun x=> x.Address==r.Address)=false:=by
  intro i r hr
  have:=hz i r hr
  rw [Nat.zero_add] at this
  unfold recQ at this
  cases h1:vXa r.Address with
  | false=> rw [h1] at this;simp at this
  | true=>
   cases h2:yYa r.Notify with
   | false=> rw [h1,h2] at this;simp at this
   | true=>
    cases h3:(l.take i).any (fun x=> x.Address==r.Address) with
    | true=> rw [h1,h2,h3] at this;simp at this
    | false=> exact ⟨rfl,rfl,rfl⟩
 refine ⟨fun r hr=> ?_, ?_⟩
 ·obtain ⟨i,hi⟩:=List.getElem?_of_mem hr
  exact ⟨(key i r hi).1,(key i r hi).2.1⟩
 ·rw [List.Nodup,List.pairwise_iff_getElem]
  intro i j hi hj hij
  simp only [List.length_map] at hi hj
  simp only [List.getElem_map]
  have h3:=(key j l[j] (List.getElem?_eq_getElem hj)).2.2
  rw [List.any_eq_false] at h3
  have:=h3 l[i] (List.mem_of_getElem? (i:=i) (by rw [List.getElem?_take_of_lt hij];exact List.getElem?_eq_getElem hi))
  simpa using this
end Go.Proofs.YtjnmamghadpedaaGreatDoor
namespace Go.Proofs.YtjnmamghadpedaaGreatDoor
open Go.RowKit
set_option maxHeartbeats 1000000
abbrev Talk:=zTa
theorem msgF_ok {m:zva} (h:(msgF m).Code=0):(∀f∈m.Fields,Zna f=0)∧m.Fields.length≤60∧(zoa m).length≤12000:=by
 have hh:=QRa _ (Wma h)
 refine ⟨hh.2.2,by omega, ?_⟩
 unfold msgF at h
 rw [if_neg (by simp [Wma h])] at h
 split at h
 ·exact absurd h (by decide)
 ·omega
theorem JKa {m:kla} (h:(Kfa m).Code=0):(envF m.Envelope).Code=0∧(msgF m.Message).Code=0:=Wla h
theorem rec_inv' {l:List zca} (h:(recF l).Code=0):∀r∈l,vXa r.Address=true∧yYa r.Notify=true:=(recF_inv h).1
def rawP (m:zva):Bool:= !decide ([13,10] <:+zoa m)
def z7b:zra:=⟨8, [], [],0,0,false⟩
def dataC:zra:=⟨4, [], [],0,0,false⟩
def z8b (n:Str):zra:=⟨1,n, [],0,0,false⟩
def JLa (f:Str) (n:Nat):zra:=⟨2, [],f,n,0,false⟩
def rcptC (r:zca):zra:=⟨3, [],r.Address,0,r.Notify,false⟩
def YUa (n:Nat):zra:=⟨5, [], [],n,0,true⟩
theorem z9b:ZNa z7b:=⟨by decide,by decide,by decide,fun h=> h.elim (fun h=> absurd h (by decide)) (fun h=> absurd h.1 (by decide)),by decide,by decide⟩
theorem kab:ZNa dataC:=⟨by decide,by decide,by decide,fun h=> h.elim (fun h=> absurd h (by decide)) (fun h=> absurd h.1 (by decide)),by decide,by decide⟩
theorem YVa {n:Str} (h:yXa n=true):ZNa (z8b n):=⟨⟨Int.le_refl 1,show (1:Int)≤8 by decide⟩,rfl,fun _=> h,fun h=> h.elim (fun h=> absurd h (show ¬(1:Int)=3 by decide)) (fun h=> absurd h.1 (show ¬(1:Int)=2 by decide)),⟨Int.le_refl 0,show (0:Int)≤1000000 by decide⟩,⟨Int.le_refl 0,show (0:Int)≤7 by decide⟩⟩
theorem kbb {f:Str} {n:Nat} (h:f= []∨vXa f=true) (hn:n≤1000000):ZNa (JLa f n):=
 ⟨⟨show (1:Int)≤2 by decide,show (2:Int)≤8 by decide⟩,rfl,fun h=> absurd h (show ¬(2:Int)=1 by decide),fun hv=> h.elim (fun h0=> hv.elim (fun hv=> absurd hv (show ¬(2:Int)=3 by decide)) fun hv=> absurd h0 hv.2) id,⟨show (0:Int)≤(n:Int) by omega,show (n:Int)≤1000000 by omega⟩,⟨Int.le_refl 0,show (0:Int)≤7 by decide⟩⟩
theorem kcb {r:zca} (h:vXa r.Address=true∧yYa r.Notify=true):ZNa (rcptC r):=by
 have h2:=h.2
 unfold yYa at h2
 simp only [Bool.and_eq_true,decide_eq_true_eq] at h2
 exact ⟨⟨show (1:Int)≤3 by decide,show (3:Int)≤8 by decide⟩,rfl,fun h=> absurd h (show ¬(3:Int)=1 by decide),fun _=> h.1,⟨Int.le_refl 0,show (0:Int)≤1000000 by decide⟩,h2⟩
theorem VGa {n:Nat} (hn:n≤1000000):ZNa (YUa n):=
 ⟨⟨show (1:Int)≤5 by decide,show (5:Int)≤8 by decide⟩,rfl,fun h=> absurd h (show ¬(5:Int)=1 by decide),fun h=> h.elim (fun h=> absurd h (show ¬(5:Int)=3 by decide)) (fun h=> absurd h.1 (show ¬(5:Int)=2 by decide)),⟨show (0:Int)≤(n:Int) by omega,show (n:Int)≤1000000 by omega⟩,⟨Int.le_refl 0,show (0:Int)≤7 by decide⟩⟩
theorem cmd_zero {c:zra} (ok:ZNa c):cmdF c=⟨0,0⟩:=by
 have h1:(decide (c.Verb < 1) || decide (8 < c.Verb))=false:=by
  have:=ok.verb
  rw [decide_eq_false (by omega),decide_eq_false (by omega)];rfl
 have h3:(c.Verb==1 && !yXa c.Name)=false:=by
  by_cases h:c.Verb=1
  ·rw [ok.name h];simp
  ·rw [beq_eq_false_iff_ne.2 h];rfl
 have h4:((c.Verb==3 || (c.Verb==2 && c.Address !=([]:Str))) && !vXa c.Address)=false:=by
  by_cases h:c.Verb=3∨(c.Verb=2∧c.Address≠ [])
  ·rw [ok.addr h];simp
  ·have h5:¬c.Verb=3:=fun e=> h (.inl e)
   rw [beq_eq_false_iff_ne.2 h5]
   by_cases h2:c.Verb=2
   ·have:c.Address= []:=Classical.byContradiction fun e=> h (.inr ⟨h2,e⟩)
    rw [this];simp
   ·rw [beq_eq_false_iff_ne.2 h2];rfl
 have h5:(decide (c.Size < 0) || decide (1000000 < c.Size))=false:=by
  have:=ok.size
  rw [decide_eq_false (by omega),decide_eq_false (by omega)];rfl
 have h6:yYa c.Notify=true:=by
  have:=ok.note
  unfold yYa
  rw [decide_eq_true this.1,decide_eq_true this.2];rfl
 unfold cmdF
 rw [h1,ok.used,h3,h4,h5,h6]
 rfl
theorem dec7 {n:Int} (h:0≤n∧n≤1000000):(Lib.decDigits n.toNat).length≤7:=Vqa 6 n.toNat (by omega)
theorem YWa {c:zra} (ok:ZNa c):(cmdT c).length≤400:=by
 have hwl:=(YPa ok.verb).2
 have hal:=KYa ok
 have hd:=dec7 ok.size
 have hc:=Woa ok.note
 have hn:c.Verb=1→c.Name.length≤60:=fun h=> (KRa (ok.name h)).2
 unfold cmdT Qna argT
 by_cases h1:c.Verb=1
 ·have:=hn h1
  rw [if_pos h1];simp;omega
 rw [if_neg h1]
 by_cases h2:c.Verb=2
 ·rw [if_pos h2]
  by_cases hs:c.Size=0
  ·rw [if_pos hs];simp;omega
  ·rw [if_neg hs];simp;omega
 rw [if_neg h2]
 by_cases h3:c.Verb=3
 ·rw [if_pos h3]
  by_cases hs:c.Notify=1
  ·rw [if_pos hs];simp;omega
  ·rw [if_neg hs];simp;omega
 rw [if_neg h3]
 by_cases h5:c.Verb=5
 ·rw [if_pos h5]
  cases c.Last <;> simp <;> omega
 ·rw [if_neg h5];simp;omega
def jRa (out:List UInt8) (c:zra):List UInt8:=out++cmdT c++ [13,10]
def ses (t:Talk) (b:List UInt8) (r:Bool):zda:=⟨t.C,b,r,t.Out⟩
theorem kdb {c:zra} (ok:ZNa c) (hn:c.Name.length≤1048576):Yqa c:=by
 have hal:=KYa ok
 exact ⟨hn,by omega⟩
theorem ZRa (t:Talk) (b:List UInt8) (r:Bool) (c:zra) (ok:ZNa c) (hn:c.Name.length≤1048576) (ho:t.Out.length≤1000000000000):zqa (ses t b r) c=some (ses ⟨t.C,jRa t.Out c⟩ b r):=by
 have hl:=YWa ok
 unfold zqa ses
 rw [Kha c (kdb ok hn),cmd_zero ok]
 simp only [Option.bind_some,bne_self_eq_false,cond_false]
 rw [qVa (by omega)]
 simp only [Option.bind_some]
 rw [qVa (by simp;omega)]
 rfl
structure Good (c:zja):Prop where
 name:yXa c.Name=true
 mail:(Kfa c.Mail).Code=0
structure GoodM (m:kla):Prop where
 frm:m.Envelope.From= []∨vXa m.Envelope.From=true
 many:1≤m.Envelope.To.length∧m.Envelope.To.length≤60
 tos:∀r∈m.Envelope.To,vXa r.Address=true∧yYa r.Notify=true
 codes:∀f∈m.Message.Fields,Zna f=0
 many60:m.Message.Fields.length≤60
 big:(zoa m.Message).length≤12000
 body:m.Message.Body.length≤12000
theorem kua {m:kla} (h:(Kfa m).Code=0):GoodM m:=by
 obtain ⟨he,hm⟩:=JKa h
 obtain ⟨m1,m2,m3⟩:=msgF_ok hm
 have h' :=he
 unfold envF at h'
 split at h'
 ·exact absurd h' (by decide)
 rename_i hfr
 split at h'
 ·exact absurd h' (by decide)
 rename_i hto
 split at h'
 ·exact absurd h' (by decide)
 simp only [Bool.or_eq_true,decide_eq_true_eq] at hto
 refine ⟨?_,by omega,rec_inv' h',m1,m2,m3, ?_⟩
 ·by_cases h0:m.Envelope.From= []
  ·exact .inl h0
  ·right
   unfold fromB at hfr
   have:(m.Envelope.From !=([]:Str))=true:=by simpa using h0
   rw [this] at hfr
   simpa using hfr
 ·unfold zoa at m3
  simp only [List.length_append] at m3
  omega
def askP (t:Talk) (k:Nat):Talk:=
 if k=1 then ⟨t.C,jRa t.Out (z8b t.C.Name)⟩ else if k=2 then ⟨t.C,jRa t.Out (JLa t.C.Mail.Envelope.From (zoa t.C.Mail.Message).length)⟩ else
 match t.C.Mail.Envelope.To[k - 3]? with
 | some r=> ⟨t.C,jRa t.Out (rcptC r)⟩
 | none=> if rawP t.C.Mail.Message=true then ⟨{t.C with Whole:=true},jRa t.Out (YUa (zoa t.C.Mail.Message).length)++zoa t.C.Mail.Message⟩ else ⟨t.C,jRa t.Out dataC⟩
theorem ask_C (t:Talk) (k:Nat):(askP t k).C={t.C with Whole:=(askP t k).C.Whole}:=by
 unfold askP
 split
 ·rfl
 ·split
  ·rfl
  ·split
   ·rfl
   ·split <;> rfl
theorem wma {o:List UInt8} {c:zra} (ok:ZNa c):(jRa o c).length≤o.length+402:=by
 have:=YWa ok
 unfold jRa
 simp;omega
theorem Ysa {t:Talk} (g:Good t.C) (k:Nat):(askP t k).Out.length≤t.Out.length+12402:=by
 have gm:=kua g.mail
 have hb:=gm.big
 unfold askP
 split
 ·have:=wma (o:=t.Out) (YVa g.name)
  dsimp only;omega
 ·split
  ·have:=wma (o:=t.Out) (kbb (n:=(zoa t.C.Mail.Message).length) gm.frm (by omega))
   dsimp only;omega
  ·split
   ·rename_i r hr
    have:=wma (o:=t.Out) (kcb (gm.tos r (List.mem_of_getElem? hr)))
    dsimp only;omega
   ·split
    ·have:=wma (o:=t.Out) (VGa (n:=(zoa t.C.Mail.Message).length) (by omega))
     simp only [List.length_append];omega
    ·have:=wma (o:=t.Out) kab
     dsimp only;omega
theorem cmd_eq (t:Talk) (g:Good t.C) (ho:t.Out.length≤100000000000) (k:Nat) (h1:1≤k) (h2:k≤t.C.Mail.Envelope.To.length+3):
  zxa (ses t (zoa t.C.Mail.Message) (rawP t.C.Mail.Message)) (k:Int)=some (ses (askP t k) (zoa t.C.Mail.Message) (rawP t.C.Mail.Message)):=by
 have gm:=kua g.mail
 have hb:=gm.big
 have hm:=gm.many
 have hn:=KRa g.name
 unfold zxa askP
 by_cases k1:k=1
 ·subst k1
  have hs:=ZRa t (zoa t.C.Mail.Message) (rawP t.C.Mail.Message) _ (YVa g.name) (by show t.C.Name.length≤_;omega) (by omega)
  rw [if_pos rfl]
  show ((zqa (ses t (zoa t.C.Mail.Message) (rawP t.C.Mail.Message)) (z8b t.C.Name)).bind fun v=> some v)=_
  rw [hs]
  rfl
 by_cases k2:k=2
 ·subst k2
  have hs:=ZRa t (zoa t.C.Mail.Message) (rawP t.C.Mail.Message) _ (kbb (n:=(zoa t.C.Mail.Message).length) gm.frm (by omega)) (by show ([]:Str).length≤_;simp) (by omega)
  rw [if_neg (by decide),if_pos rfl]
  show ((zqa (ses t (zoa t.C.Mail.Message) (rawP t.C.Mail.Message)) (JLa t.C.Mail.Envelope.From (zoa t.C.Mail.Message).length)).bind fun v=> some v)=_
  rw [hs]
  rfl
 have e1:((k:Int)==1)=false:=by rw [beq_eq_false_iff_ne];omega
 have e2:((k:Int)==2)=false:=by rw [beq_eq_false_iff_ne];omega
 have ek:w64 ((k:Int) - 3)=((k - 3:Nat):Int):=by rw [qfa (by omega) (by omega)];omega
 have en:w64 ((t.C.Mail.Envelope.To.length:Int)+3)=((t.C.Mail.Envelope.To.length+3:Nat):Int):=by rw [qfa (by omega) (by omega)];omega
 rw [e1,e2,if_neg k1,if_neg k2]
 unfold zUa
 simp only [cond_false,Option.bind_some]
 show (bif decide ((k:Int) < w64 ((t.C.Mail.Envelope.To.length:Int)+3)) then (idx t.C.Mail.Envelope.To (w64 ((k:Int) - 3))).bind fun v10=> (zqa (ses t (zoa t.C.Mail.Message) (rawP t.C.Mail.Message)) (rcptC v10)).bind fun v12=> some v12 else _)=_
 rw [en,ek,yVa]
 by_cases hk:k < t.C.Mail.Envelope.To.length+3
 ·rw [decide_eq_true (by omega),List.getElem?_eq_getElem (by omega)]
  have hr:=gm.tos _ (List.getElem_mem (show k - 3 < t.C.Mail.Envelope.To.length by omega))
  simp only [cond_true,Option.bind_some,ZRa t _ _ _ (kcb hr) (by show ([]:Str).length≤_;simp) (by omega)]
 ·rw [decide_eq_false (by omega),List.getElem?_eq_none (by omega)]
  dsimp only [cond_false]
  cases hr:rawP t.C.Mail.Message with
  | true=>
   have hs:=ZRa t (zoa t.C.Mail.Message) true _ (VGa (n:=(zoa t.C.Mail.Message).length) (by omega)) (by show ([]:Str).length≤_;simp) (by omega)
   have hl:=wma (o:=t.Out) (VGa (n:=(zoa t.C.Mail.Message).length) (by omega))
   rw [if_pos rfl]
   show ((zqa (ses t (zoa t.C.Mail.Message) true) (YUa (zoa t.C.Mail.Message).length)).bind _)=_
   rw [hs]
   simp only [Option.bind_some]
   unfold ses
   dsimp only
   rw [qVa (by omega)]
   rfl
  | false=>
   rw [if_neg (by decide)]
   show ((zqa (ses t (zoa t.C.Mail.Message) false) dataC).bind fun v=> some v)=_
   rw [ZRa t _ _ _ kab (by show ([]:Str).length≤_;simp) (by omega)]
   rfl
end Go.Proofs.YtjnmamghadpedaaGreatDoor
namespace Go.Proofs.YtjnmamghadpedaaGreatDoor
open Go.RowKit
set_option maxHeartbeats 1000000
set_option maxRecDepth 20000
def jna:Nat→Nat→Talk→Talk
 | 0,_,t=> t
 | m+1,k,t=> jna m (k+1) (askP t k)
theorem YXa {t:Talk} (g:Good t.C) (k:Nat):Good (askP t k).C:=by rw [ask_C];exact ⟨g.name,g.mail⟩
theorem Kra (t:Talk) (k:Nat):(askP t k).C.Mail=t.C.Mail:=by rw [ask_C]
theorem asks_C:∀(m k:Nat) (t:Talk),(jna m k t).C={t.C with Whole:=(jna m k t).C.Whole}
 | 0,_,_=> rfl
 | m+1,k,t=> by
  have h:=asks_C m (k+1) (askP t k)
  have h2:=ask_C t k
  show (jna m (k+1) (askP t k)).C=_
  rw [h,h2]
  rfl
def bnd:Nat→Nat
 | 0=> 0
 | m+1=> bnd m+12402
theorem VHa (m:Nat):bnd (m+1)=bnd m+12402:=rfl
theorem bnd_le:∀m d:Nat,bnd m≤bnd (m+d)
 | m,0=> Nat.le_refl _
 | m,d+1=> by have:=bnd_le m d;have h:=VHa (m+d);rw [←Nat.add_assoc];omega
theorem bnd_64 {m:Nat} (h:m≤64):bnd m≤800000:=by
 have h1:=bnd_le m (64 - m)
 rw [show m+(64 - m)=64 by omega] at h1
 have h2:bnd 64≤800000:=by decide
 omega
theorem YYa:∀(m k:Nat) (t:Talk),Good t.C→(jna m k t).Out.length≤t.Out.length+bnd m
 | 0,_,t,_=> by show t.Out.length≤_;omega
 | m+1,k,t,g=> by
  have h:=YYa m (k+1) (askP t k) (YXa g k)
  have h2:=Ysa g k
  have h3:=VHa m
  show (jna m (k+1) (askP t k)).Out.length≤_
  omega
theorem K2a (j:Int × Bool):∀(m k:Nat) (t:Talk),Good t.C→t.Out.length+bnd m≤95000000000→1≤k→k+m=t.C.Mail.Envelope.To.length+4→j.1=((t.C.Mail.Envelope.To.length+3:Nat):Int)→
  iter (zHa j) ((k:Int),ses t (zoa t.C.Mail.Message) (rawP t.C.Mail.Message))=some (ses (jna m k t) (zoa t.C.Mail.Message) (rawP t.C.Mail.Message))
 | 0,k,t,g,ho,h1,hk,hj=> by
  refine zOa ?_
  unfold zHa
  dsimp only
  rw [hj,decide_eq_false (by omega)]
  rfl
 | m+1,k,t,g,ho,h1,hk,hj=> by
  have hm:=(kua g.mail).many
  have hstep:zHa j ((k:Int),ses t (zoa t.C.Mail.Message) (rawP t.C.Mail.Message))=some (.cont (((k+1:Nat):Int),ses (askP t k) (zoa t.C.Mail.Message) (rawP t.C.Mail.Message))):=by
   unfold zHa
   dsimp only
   rw [hj,decide_eq_true (by omega),cond_true,cmd_eq t g (by omega) k h1 (by omega)]
   simp only [Option.bind_some]
   rw [show w64 ((k:Int)+1)=((k+1:Nat):Int) by rw [qfa (by omega) (by omega)];omega]
  rw [z9a hstep]
  have hl:=Ysa g k
  have h3:=VHa m
  have:=K2a j m (k+1) (askP t k) (YXa g k) (by omega) (by omega) (by rw [Kra];omega) (by rw [Kra];exact hj)
  rw [Kra] at this
  exact this
def setE (t:Talk) (e:Int):Talk:=⟨{t.C with Expected:=e},t.Out⟩
def many (t:Talk):Nat:=t.C.Mail.Envelope.To.length
def onP1 (t:Talk) (e:Nat):Talk:=if t.C.Pipelined=false∨e=0 then askP (setE t ((e+1:Nat):Int)) (e+1) else if e=1 then jna (many t+2) 2 (setE t ((e+1:Nat):Int)) else setE t ((e+1:Nat):Int)
def qna (t:Talk) (e:Nat):Talk:=if e+1=many t+3∧rawP t.C.Mail.Message=true then setE (onP1 t e) ((e+2:Nat):Int) else onP1 t e
theorem on1_C (t:Talk) (e:Nat):(onP1 t e).C={t.C with Expected:=((e+1:Nat):Int),Whole:=(onP1 t e).C.Whole}:=by
 unfold onP1
 split
 ·rw [ask_C];rfl
 ·split
  ·rw [asks_C];rfl
  ·rfl
theorem on1_len {t:Talk} (g:Good t.C) (e:Nat):(onP1 t e).Out.length≤t.Out.length+800000:=by
 have hm:=(kua g.mail).many
 have g' :Good (setE t ((e+1:Nat):Int)).C:=⟨g.name,g.mail⟩
 unfold onP1
 split
 ·have:=Ysa g' (e+1)
  have e1:(setE t ((e+1:Nat):Int)).Out=t.Out:=rfl
  rw [e1] at this;omega
 ·split
  ·have:=YYa (many t+2) 2 _ g'
   have h3:=bnd_64 (m:=many t+2) (by show t.C.Mail.Envelope.To.length+2≤_;omega)
   have e1:(setE t ((e+1:Nat):Int)).Out=t.Out:=rfl
   have e2:many t=t.C.Mail.Envelope.To.length:=rfl
   rw [e1] at this;omega
  ·show t.Out.length≤_;omega
theorem JMa {t:Talk} (g:Good t.C) (e:Nat):(qna t e).Out.length≤t.Out.length+800000:=by
 have:=on1_len g e
 unfold qna
 split
 ·exact this
 ·exact this
theorem Wpa (t:Talk) (g:Good t.C) (ho:t.Out.length≤90000000000) (e:Nat) (he:t.C.Expected=(e:Int)) (h2:e≤many t+2):
  zVa (ses t (zoa t.C.Mail.Message) (rawP t.C.Mail.Message))=some (ses (qna t e) (zoa t.C.Mail.Message) (rawP t.C.Mail.Message)):=by
 have hm:=(kua g.mail).many
 have hmt:many t=t.C.Mail.Envelope.To.length:=rfl
 have ew:w64 (t.C.Expected+1)=((e+1:Nat):Int):=by rw [he,qfa (by omega) (by omega)];omega
 have g' :Good (setE t ((e+1:Nat):Int)).C:=⟨g.name,g.mail⟩
 have hs:(zda.mk ((zja.mk t.C.Name t.C.Mail t.C.Pipelined t.C.Buffer ((w64 (t.C.Expected+1))) t.C.Whole t.C.Done t.C.Results)) (zoa t.C.Mail.Message) (rawP t.C.Mail.Message) t.Out)=ses (setE t ((e+1:Nat):Int)) (zoa t.C.Mail.Message) (rawP t.C.Mail.Message):=by rw [ew];rfl
 have en:w64 ((t.C.Mail.Envelope.To.length:Int)+3)=((many t+3:Nat):Int):=by rw [qfa (by omega) (by omega)];omega
 have hask:=cmd_eq (setE t ((e+1:Nat):Int)) g' (by show t.Out.length≤_;omega) (e+1) (by omega) (by show e+1≤t.C.Mail.Envelope.To.length+3;omega)
 have hloop:∀j:Int × Bool,j.1=((many t+3:Nat):Int)→iter (zHa j) (2,ses (setE t ((e+1:Nat):Int)) (zoa t.C.Mail.Message) (rawP t.C.Mail.Message))=some (ses (jna (many t+2) 2 (setE t ((e+1:Nat):Int))) (zoa t.C.Mail.Message) (rawP t.C.Mail.Message)):=fun j hj=>
  K2a j (many t+2) 2 (setE t ((e+1:Nat):Int)) g' (by have:=bnd_64 (m:=many t+2) (by omega);show t.Out.length+bnd (many t+2)≤_;omega) (by omega) (by show 2+(many t+2)=t.C.Mail.Envelope.To.length+4;omega) hj
 have h1:∀q:Int × zda,q=(((many t+3:Nat):Int),ses (onP1 t e) (zoa t.C.Mail.Message) (rawP t.C.Mail.Message))→
   (((bif (q.2.Client.Expected==q.1) then some q.2.chunk else some false):Option Bool).bind fun (j16:Bool)=> (bif j16 then some ((zda.mk ((zja.mk q.2.Client.Name q.2.Client.Mail q.2.Client.Pipelined q.2.Client.Buffer ((w64 (q.2.Client.Expected+1))) q.2.Client.Whole q.2.Client.Done q.2.Client.Results)) q.2.content q.2.chunk q.2.out)) else some q.2))=some (ses (qna t e) (zoa t.C.Mail.Message) (rawP t.C.Mail.Message)):=by
  rintro q rfl
  have hE:(ses (onP1 t e) (zoa t.C.Mail.Message) (rawP t.C.Mail.Message)).Client.Expected=((e+1:Nat):Int):=by show (onP1 t e).C.Expected=_;rw [on1_C]
  have ew2:w64 (((e+1:Nat):Int)+1)=((e+2:Nat):Int):=by rw [qfa (by omega) (by omega)];omega
  dsimp only
  rw [hE,ew2]
  unfold qna
  by_cases hc:e+1=many t+3
  ·rw [show (((e+1:Nat):Int)==((many t+3:Nat):Int))=true by rw [beq_iff_eq];omega]
   simp only [cond_true,Option.bind_some]
   show (bif rawP t.C.Mail.Message then _ else _)=_
   cases hr:rawP t.C.Mail.Message with
   | true=> rw [if_pos ⟨hc,rfl⟩];rfl
   | false=> rw [if_neg (fun h=> by cases h.2)];rfl
  ·rw [show (((e+1:Nat):Int)==((many t+3:Nat):Int))=false by rw [beq_eq_false_iff_ne];omega,if_neg (fun h=> hc h.1)]
   rfl
 unfold zVa
 rw [show (zda.mk ((zja.mk (ses t (zoa t.C.Mail.Message) (rawP t.C.Mail.Message)).Client.Name (ses t (zoa t.C.Mail.Message) (rawP t.C.Mail.Message)).Client.Mail (ses t (zoa t.C.Mail.Message) (rawP t.C.Mail.Message)).Client.Pipelined (ses t (zoa t.C.Mail.Message) (rawP t.C.Mail.Message)).Client.Buffer ((w64 ((ses t (zoa t.C.Mail.Message) (rawP t.C.Mail.Message)).Client.Expected+1))) (ses t (zoa t.C.Mail.Message) (rawP t.C.Mail.Message)).Client.Whole (ses t (zoa t.C.Mail.Message) (rawP t.C.Mail.Message)).Client.Done (ses t (zoa t.C.Mail.Message) (rawP t.C.Mail.Message)).Client.Results)) (ses t (zoa t.C.Mail.Message) (rawP t.C.Mail.Message)).content (ses t (zoa t.C.Mail.Message) (rawP t.C.Mail.Message)).chunk (ses t (zoa t.C.Mail.Message) (rawP t.C.Mail.Message)).out)=ses (setE t ((e+1:Nat):Int)) (zoa t.C.Mail.Message) (rawP t.C.Mail.Message) from hs]
 unfold zUa
 simp only [Option.bind_some]
 show ((((bif (!t.C.Pipelined) then some ((w64 ((t.C.Mail.Envelope.To.length:Int)+3)),true) else some ((w64 ((t.C.Mail.Envelope.To.length:Int)+3)),((((e+1:Nat):Int))==1))):Option (Int × Bool)).bind _).bind _)=_
 rw [en]
 cases hp:t.C.Pipelined with
 | false=>
  have ho1:onP1 t e=askP (setE t ((e+1:Nat):Int)) (e+1):=by unfold onP1;rw [if_pos (.inl hp)]
  simp only [Bool.not_false,cond_true,Option.bind_some]
  show ((zxa (ses (setE t ((e+1:Nat):Int)) (zoa t.C.Mail.Message) (rawP t.C.Mail.Message)) ((e+1:Nat):Int)).bind _).bind _=_
  rw [show zxa (ses (setE t ((e+1:Nat):Int)) (zoa t.C.Mail.Message) (rawP t.C.Mail.Message)) ((e+1:Nat):Int)=_ from hask]
  simp only [Option.bind_some]
  exact h1 _ (by rw [ho1])
 | true=>
  simp only [Bool.not_true,cond_false,Option.bind_some]
  by_cases h0:e=0
  ·have ho1:onP1 t e=askP (setE t ((e+1:Nat):Int)) (e+1):=by unfold onP1;rw [if_pos (.inr h0)]
   rw [show (((e+1:Nat):Int)==1)=true by rw [beq_iff_eq];omega]
   simp only [cond_true]
   show ((zxa (ses (setE t ((e+1:Nat):Int)) (zoa t.C.Mail.Message) (rawP t.C.Mail.Message)) ((e+1:Nat):Int)).bind _).bind _=_
   rw [show zxa (ses (setE t ((e+1:Nat):Int)) (zoa t.C.Mail.Message) (rawP t.C.Mail.Message)) ((e+1:Nat):Int)=_ from hask]
   simp only [Option.bind_some]
   exact h1 _ (by rw [ho1])
  ·rw [show (((e+1:Nat):Int)==1)=false by rw [beq_eq_false_iff_ne];omega]
   simp only [cond_false]
   show ((bif (((e+1:Nat):Int)==2) then _ else _):Option (Int × zda)).bind _=_
   by_cases h1' :e=1
   ·have ho1:onP1 t e=jna (many t+2) 2 (setE t ((e+1:Nat):Int)):=by unfold onP1;rw [if_neg (by rw [hp];simp [h0]),if_pos h1']
    rw [show (((e+1:Nat):Int)==2)=true by rw [beq_iff_eq];omega]
    simp only [cond_true]
    rw [hloop _ rfl]
    simp only [Option.bind_some]
    exact h1 _ (by rw [ho1])
   ·have ho1:onP1 t e=setE t ((e+1:Nat):Int):=by unfold onP1;rw [if_neg (by rw [hp];simp [h0]),if_neg h1']
    rw [show (((e+1:Nat):Int)==2)=false by rw [beq_eq_false_iff_ne];omega]
    simp only [cond_false,Option.bind_some]
    exact h1 _ (by rw [ho1])
end Go.Proofs.YtjnmamghadpedaaGreatDoor
namespace Go.Proofs.YtjnmamghadpedaaGreatDoor
open Go.RowKit
set_option maxHeartbeats 1000000
set_option maxRecDepth 20000
def y2a (r x:Int):Int:=if x=0 then r else x
def Qra (l:List Int) (r:Int):List Int:=l.map (y2a r)
theorem keb (l:List Int) (r:Int):(Qra l r).length=l.length:=by unfold Qra;simp
def restP (t:Talk) (r:Int):Talk:=⟨{t.C with Done:=true,Results:=Qra t.C.Results r},t.Out⟩
def K3a (t:Talk) (r:Int):Talk:=⟨(restP t r).C,jRa t.Out z7b⟩
def anyO (l:List Int):Bool:=l.any fun x=> x==0
def tb (t:Talk) (b:List UInt8):Talk:=⟨{t.C with Buffer:=b},t.Out⟩
def sesR (S:zda) (l:List Int):zda:=⟨{S.Client with Results:=l},S.content,S.chunk,S.out⟩
theorem kfb (S:zda) (r:Int) (hl:S.Client.Results.length≤1048576):z7a S r=some (sesR S (Qra S.Client.Results r)):=by
 have key:∀(q p:List Int),S.Client.Results=p++q→iter (zNa S r) ((p.length:Int),sesR S (p.map (y2a r)++q))=some (sesR S (p.map (y2a r)++q.map (y2a r))):=by
  intro q
  induction q with
  | nil=>
   intro p hp
   refine zOa ?_
   unfold zNa
   dsimp only
   rw [hp,decide_eq_false (by simp)]
   simp
  | cons x q ih=>
   intro p hp
   have hlen:S.Client.Results.length=p.length+(q.length+1):=by rw [hp];simp
   have hpl:(p.map (y2a r)).length=p.length:=by simp
   have hi:idx (p.map (y2a r)++x::q) (p.length:Int)=some x:=by rw [←hpl];exact idx_app _ _ _
   have hset:List.set (p.map (y2a r)++x::q) (Int.toNat (p.length:Int)) r=p.map (y2a r)++r::q:=by
    rw [Int.toNat_natCast,List.set_append_right _ _ (by simp)]
    simp
   have hstep:zNa S r ((p.length:Int),sesR S (p.map (y2a r)++x::q))=some (.cont ((((p++ [x]).length:Nat):Int),sesR S ((p++ [x]).map (y2a r)++q))):=by
    unfold zNa
    unfold sesR
    dsimp only
    rw [decide_eq_true (by omega),hi,hset]
    simp only [cond_true,Option.bind_some]
    rw [show w64 ((p.length:Int)+1)=(((p++ [x]).length:Nat):Int) by rw [qfa (by omega) (by omega)];simp]
    by_cases hx:x=0
    ·subst hx;simp [y2a]
    ·rw [beq_eq_false_iff_ne.2 hx]
     simp [y2a,hx]
   rw [z9a hstep,ih (p++ [x]) (by rw [hp];simp)]
   simp
 have:=key S.Client.Results [] rfl
 unfold z7a
 rw [show iter (zNa S r) (0,S)=_ from this]
 rfl
theorem Zqa (t:Talk) (b:List UInt8) (w:Bool) (r:Int) (hl:t.C.Results.length≤1048576) (ho:t.Out.length≤1000000000000):zta (ses t b w) r=some (ses (K3a t r) b w):=by
 unfold zta
 rw [kfb _ r hl]
 simp only [Option.bind_some]
 show ((zqa (ses ⟨{t.C with Results:=Qra t.C.Results r},t.Out⟩ b w) z7b).bind _)=_
 rw [ZRa ⟨{t.C with Results:=Qra t.C.Results r},t.Out⟩ b w z7b z9b (by show ([]:Str).length≤_;simp) ho]
 rfl
theorem kgb (S:zda) (hl:S.Client.Results.length≤1048576):z8a S=some (!anyO S.Client.Results,S):=by
 unfold z8a
 rw [kra S.Client.Results (fun i x=> if (0==x)=true then some ((i:Nat):Int) else none) (.inl ()) .inr]
 ·simp only [Option.bind_some,Vpa]
  rw [KNa (fun x=> 0==x) S.Client.Results 0]
  have:(S.Client.Results.any fun x=> 0==x)=anyO S.Client.Results:=by
   unfold anyO
   congr 1
   funext x
   rw [Bool.eq_iff_iff]
   simp only [beq_iff_eq]
   exact ⟨fun h=> h.symm,fun h=> h.symm⟩
  rw [this]
 ·unfold kKa;rw [qda];rfl
 ·intro i x hx
  have hi:=kTa hx
  unfold kKa
  rw [vra hx,k3a hx]
  simp only [cond_true,Option.bind_some,sc i (by omega)]
  cases (0:Int)==x <;> rfl
structure CInv (c:zja):Prop where
 good:Good c
 len:c.Results.length=c.Mail.Envelope.To.length
 e0:0≤c.Expected
 e1:c.Expected≤(c.Mail.Envelope.To.length:Int)+4
 rng:∀r∈c.Results,0≤r∧r≤4
structure COpn (c:zja):Prop where
 whole:c.Whole=(decide (c.Expected=(c.Mail.Envelope.To.length:Int)+4) || (rawP c.Mail.Message && c.Pipelined && decide (2≤c.Expected)))
 nr:¬(rawP c.Mail.Message=true∧c.Expected=(c.Mail.Envelope.To.length:Int)+3)
 opn:∀(i:Nat) x,c.Results[i]? =some x→c.Expected≤(i:Int)+3→x=0
def v0a (k:Int):Int:=if k=5 then 3 else 2
def setR (t:Talk) (i:Nat) (r:Int):Talk:=⟨{t.C with Results:=t.C.Results.set i r},t.Out⟩
def JNa (b:List UInt8):List UInt8:=y1a (fl [] b).1++ [46,13,10]
def doneP (t:Talk):Talk:=⟨{t.C with Done:=true},t.Out⟩
def bodyT (t:Talk):Talk:=⟨{t.C with Whole:=true,Expected:=((many t+4:Nat):Int)},t.Out++JNa (zoa t.C.Mail.Message)⟩
def k4a (t:Talk) (k:Int) (e:Nat):Talk:=if k=2 then t else setR t (e - 3) (v0a k)
def Wqa (t:Talk) (k:Int) (e:Nat):Talk:=
 if e≤2 then (if k=2 then qna t e else K3a t (v0a k))
 else if e≤many t+2 then (if e=many t+2∧t.C.Pipelined=false∧anyO (k4a t k e).C.Results=false then K3a (k4a t k e) 2 else qna (k4a t k e) e)
 else if e=many t+3 then (if k=3 then (if anyO t.C.Results=false then doneP t else bodyT t) else K3a t (v0a k))
 else if k=2 then K3a t 1 else K3a t (v0a k)
theorem yna {α β:Type} {o:Option α} {v:α} {f:α→Option β} {r:Option β} (h:o=some v) (h2:f v=r):o.bind f=r:=by rw [h];exact h2
theorem jga (k:Int):ksa k=some (v0a k):=by
 unfold ksa v0a
 by_cases h:k=5
 ·rw [if_pos h,h];rfl
 ·rw [if_neg h,beq_eq_false_iff_ne.2 h];rfl
theorem fl_end {b:List UInt8} (h: [13,10] <:+b):(fl [] b).2= []:=(QTa b []).2 (.inr h)
theorem raw_end {m:zva} (h:rawP m=false): [13,10] <:+zoa m:=by unfold rawP at h;simpa using h
theorem stuff_eq {m:zva} (h:rawP m=false) (hb:(zoa m).length≤12000):q5a (zoa m)=some (JNa (zoa m),⟨0,0⟩):=by
 rw [Qqa,if_neg (by omega),if_neg (by rw [fl_end (raw_end h)];simp)]
 rfl
theorem Wra (m:zva) (hb:(zoa m).length≤12000):(JNa (zoa m)).length≤24003:=by
 have h1:=K1a (fl [] (zoa m)).1
 have h2:=fl_joinN (zoa m)
 have h3:=YTa (fl [] (zoa m)).1
 have h4:(zCa (fl [] (zoa m)).1).length=((fl [] (zoa m)).1.flatMap fun x=> x++ [13,10]).length:=rfl
 unfold JNa
 simp only [List.length_append,List.length_cons,List.length_nil]
 omega
theorem khb (t:Talk) (k:Int) (e:Nat):(k4a t k e).C={t.C with Results:=(k4a t k e).C.Results}∧(k4a t k e).Out=t.Out:=by
 unfold k4a
 split <;> exact ⟨rfl,rfl⟩
theorem hear_eq (t:Talk) (iv:CInv t.C) (op:COpn t.C) (ho:t.Out.length≤90000000000) (r:kva) (hr:(jBa r).Code=0) (hs:smLn r.Lines) (e:Nat) (he:t.C.Expected=(e:Int)):
  kpa (ses t (zoa t.C.Mail.Message) (rawP t.C.Mail.Message)) r=some (ses (Wqa t (iQuo r.Code 100) e) (zoa t.C.Mail.Message) (rawP t.C.Mail.Message)):=by
 have gm:=kua iv.good.mail
 have hm:=gm.many
 have hmt:many t=t.C.Mail.Envelope.To.length:=rfl
 have hlen:=iv.len
 have h1:=iv.e1
 unfold kpa zUa
 rw [Qoa r hs,if_neg (by simp [hr])]
 simp only [Option.bind_some]
 generalize iQuo r.Code 100=k
 show (bif decide (t.C.Expected < 3) then _ else (bif decide (t.C.Expected < (w64 ((t.C.Mail.Envelope.To.length:Int)+3))) then _ else (bif (t.C.Expected==(w64 ((t.C.Mail.Envelope.To.length:Int)+3))) then _ else _)))=_
 have en:w64 ((t.C.Mail.Envelope.To.length:Int)+3)=((many t+3:Nat):Int):=by rw [qfa (by omega) (by omega)];omega
 rw [he,en]
 unfold Wqa
 by_cases c1:e≤2
 ·rw [decide_eq_true (by omega),if_pos c1]
  simp only [cond_true]
  by_cases hk:k=2
  ·rw [show (k !=2)=false by rw [hk];rfl,if_pos hk]
   simp only [cond_false]
   rw [show zVa _=_ from Wpa t iv.good ho e he (by omega)]
   rfl
  ·rw [show (k !=2)=true by simpa using hk,if_neg hk]
   simp only [cond_true,jga,Option.bind_some]
   rw [show zta _ _=_ from Zqa t _ _ (v0a k) (by omega) (by omega)]
   rfl
 rw [decide_eq_false (show ¬((e:Int) < 3) by omega),if_neg c1]
 simp only [cond_false]
 by_cases c2:e≤many t+2
 ·rw [decide_eq_true (show (e:Int) < ((many t+3:Nat):Int) by omega),if_pos c2]
  simp only [cond_true]
  have ei:w64 ((e:Int) - 3)=((e - 3:Nat):Int):=by rw [qfa (by omega) (by omega)];omega
  have hj:((bif (k !=2) then (ksa k).bind fun v16=> (idx t.C.Results ((w64 (t.C.Expected - 3)))).bind fun v18=> (idx t.C.Results ((w64 (t.C.Expected - 3)))).bind fun v20=> some (((w64 ((t.C.Mail.Envelope.To.length:Int)+3)),(zda.mk ((zja.mk t.C.Name t.C.Mail t.C.Pipelined t.C.Buffer t.C.Expected t.C.Whole t.C.Done ((List.set t.C.Results (Int.toNat ((w64 (t.C.Expected - 3)))) v16)))) (zoa t.C.Mail.Message) (rawP t.C.Mail.Message) t.Out))) else some (((w64 ((t.C.Mail.Envelope.To.length:Int)+3)),ses t (zoa t.C.Mail.Message) (rawP t.C.Mail.Message)))):Option (Int × zda))=
    some (((many t+3:Nat):Int),ses (k4a t k e) (zoa t.C.Mail.Message) (rawP t.C.Mail.Message)):=by
   rw [en,show w64 (t.C.Expected - 3)=((e - 3:Nat):Int) by rw [he];exact ei]
   unfold k4a
   by_cases hk:k=2
   ·rw [show (k !=2)=false by rw [hk];rfl,if_pos hk];rfl
   ·rw [show (k !=2)=true by simpa using hk,if_neg hk,jga,yVa,List.getElem?_eq_getElem (by omega)]
    rfl
  have hR:=khb t k e
  have hlen2:(k4a t k e).C.Results.length=t.C.Results.length:=by unfold k4a;split <;> simp [setR]
  have g2:Good (k4a t k e).C:=by rw [hR.1];exact ⟨iv.good.name,iv.good.mail⟩
  have hM:(k4a t k e).C.Mail=t.C.Mail:=by rw [hR.1]
  have hE2:(k4a t k e).C.Expected=(e:Int):=by rw [hR.1];exact he
  have hP2:(k4a t k e).C.Pipelined=t.C.Pipelined:=by rw [hR.1]
  have hon:=Wpa (k4a t k e) g2 (by rw [hR.2];exact ho) e hE2 (by show e≤(k4a t k e).C.Mail.Envelope.To.length+2;rw [hM];omega)
  have hlv:=Zqa (k4a t k e) (zoa t.C.Mail.Message) (rawP t.C.Mail.Message) 2 (by omega) (by rw [hR.2];omega)
  rw [hM] at hon
  refine yna hj ?_
  show (((bif ((k4a t k e).C.Expected==w64 (((many t+3:Nat):Int) - 1)) then (bif (!(k4a t k e).C.Pipelined) then (z8a (ses (k4a t k e) (zoa t.C.Mail.Message) (rawP t.C.Mail.Message))).bind _ else _) else _):Option (Bool × zda)).bind _)=_
  rw [hE2,hP2,show w64 (((many t+3:Nat):Int) - 1)=((many t+2:Nat):Int) by rw [qfa (by omega) (by omega)];omega]
  by_cases c3:e=many t+2
  ·rw [show ((e:Int)==((many t+2:Nat):Int))=true by rw [beq_iff_eq];omega]
   simp only [cond_true]
   cases hp:t.C.Pipelined with
   | true=>
    rw [if_neg (fun h=> by cases h.2.1)]
    simp only [Bool.not_true,cond_false,Option.bind_some]
    rw [hon]
    rfl
   | false=>
    simp only [Bool.not_false,cond_true]
    rw [kgb _ (by show (k4a t k e).C.Results.length≤_;omega)]
    simp only [Option.bind_some]
    show (bif (!anyO (k4a t k e).C.Results) then _ else _)=_
    cases ha:anyO (k4a t k e).C.Results with
    | false=>
     rw [if_pos (by refine ⟨c3, ?_, ?_⟩ <;> simp)]
     simp only [Bool.not_false,cond_true]
     rw [hlv]
     rfl
    | true=>
     rw [if_neg (by simp)]
     simp only [Bool.not_true,cond_false]
     rw [hon]
     rfl
  ·rw [show ((e:Int)==((many t+2:Nat):Int))=false by rw [beq_eq_false_iff_ne];omega,if_neg (fun h=> c3 h.1)]
   simp only [cond_false,Option.bind_some]
   rw [hon]
   rfl
 rw [decide_eq_false (show ¬((e:Int) < ((many t+3:Nat):Int)) by omega),if_neg c2]
 simp only [cond_false]
 by_cases c3:e=many t+3
 ·rw [show ((e:Int)==((many t+3:Nat):Int))=true by rw [beq_iff_eq];omega,if_pos c3]
  simp only [cond_true]
  have hnr:rawP t.C.Mail.Message=false:=by
   cases hr:rawP t.C.Mail.Message with
   | false=> rfl
   | true=> exact absurd ⟨hr,by omega⟩ op.nr
  unfold kYa
  by_cases hk:k=3
  ·rw [show (k !=3)=false by rw [hk];rfl,if_pos hk]
   simp only [cond_false]
   rw [kgb _ (by show t.C.Results.length≤_;omega)]
   simp only [Option.bind_some]
   show ((bif (!anyO t.C.Results) then _ else _:Option zda).bind _)=_
   cases ha:anyO t.C.Results with
   | false=> rw [if_pos rfl];rfl
   | true=>
    rw [if_neg (by decide)]
    simp only [Bool.not_true,cond_false]
    have hst:=stuff_eq hnr gm.big
    have hsl:=Wra t.C.Mail.Message gm.big
    show (((q5a (zoa t.C.Mail.Message)).bind fun v9=> (app 140737488355328 t.Out v9.1).bind _).bind _)=_
    rw [hst]
    simp only [Option.bind_some]
    rw [qVa (by omega)]
    simp only [Option.bind_some]
    show some (zda.mk (zja.mk t.C.Name t.C.Mail t.C.Pipelined t.C.Buffer (w64 (t.C.Expected+1)) true t.C.Done t.C.Results) (zoa t.C.Mail.Message) (rawP t.C.Mail.Message) (t.Out++JNa (zoa t.C.Mail.Message)))=_
    rw [show w64 (t.C.Expected+1)=((many t+4:Nat):Int) by rw [he,qfa (by omega) (by omega)];omega]
    rfl
  ·rw [show (k !=3)=true by simpa using hk,if_neg hk]
   simp only [cond_true,jga,Option.bind_some]
   rw [show zta _ _=_ from Zqa t _ _ (v0a k) (by omega) (by omega)]
   rfl
 ·rw [show ((e:Int)==((many t+3:Nat):Int))=false by rw [beq_eq_false_iff_ne];omega,if_neg c3]
  simp only [cond_false]
  by_cases hk:k=2
  ·rw [show (k==2)=true by rw [hk];rfl,if_pos hk]
   simp only [cond_true]
   rw [show zta _ _=_ from Zqa t _ _ 1 (by omega) (by omega)]
   rfl
  ·rw [show (k==2)=false by simpa using hk,if_neg hk]
   simp only [cond_false,jga,Option.bind_some]
   rw [show zta _ _=_ from Zqa t _ _ (v0a k) (by omega) (by omega)]
   rfl
end Go.Proofs.YtjnmamghadpedaaGreatDoor
namespace Go.Proofs.YtjnmamghadpedaaGreatDoor
open Go.RowKit
set_option maxHeartbeats 1000000
set_option maxRecDepth 20000
theorem ask_tb (t:Talk) (b:List UInt8) (k:Nat):askP (tb t b) k=tb (askP t k) b:=by
 unfold askP
 by_cases k1:k=1
 ·rw [if_pos k1,if_pos k1];rfl
 rw [if_neg k1,if_neg k1]
 by_cases k2:k=2
 ·rw [if_pos k2,if_pos k2];rfl
 rw [if_neg k2,if_neg k2]
 show (match t.C.Mail.Envelope.To[k - 3]? with | some r=> (⟨(tb t b).C,jRa t.Out (rcptC r)⟩:Talk) | none=> if rawP t.C.Mail.Message=true then ⟨{(tb t b).C with Whole:=true},jRa t.Out (YUa (zoa t.C.Mail.Message).length)++zoa t.C.Mail.Message⟩ else ⟨(tb t b).C,jRa t.Out dataC⟩)=_
 cases t.C.Mail.Envelope.To[k - 3]? with
 | some r=> rfl
 | none=>
  dsimp only
  cases rawP t.C.Mail.Message <;> rfl
theorem kib (b:List UInt8):∀(m k:Nat) (t:Talk),jna m k (tb t b)=tb (jna m k t) b
 | 0,_,_=> rfl
 | m+1,k,t=> by show jna m (k+1) (askP (tb t b) k)=_;rw [ask_tb,kib b m];rfl
theorem on1_tb (t:Talk) (b:List UInt8) (e:Nat):onP1 (tb t b) e=tb (onP1 t e) b:=by
 unfold onP1
 show (if t.C.Pipelined=false∨e=0 then askP (tb (setE t ((e+1:Nat):Int)) b) (e+1) else if e=1 then jna (many t+2) 2 (tb (setE t ((e+1:Nat):Int)) b) else tb (setE t ((e+1:Nat):Int)) b)=_
 rw [ask_tb,kib]
 split
 ·rfl
 ·split <;> rfl
theorem Wsa (t:Talk) (b:List UInt8) (e:Nat):qna (tb t b) e=tb (qna t e) b:=by
 unfold qna
 rw [on1_tb]
 show (if e+1=many t+3∧rawP t.C.Mail.Message=true then _ else _)=_
 split <;> rfl
theorem rcpt_tb (t:Talk) (b:List UInt8) (k:Int) (e:Nat):k4a (tb t b) k e=tb (k4a t k e) b:=by
 unfold k4a
 split <;> rfl
theorem hear_tb (t:Talk) (b:List UInt8) (k:Int) (e:Nat):Wqa (tb t b) k e=tb (Wqa t k e) b:=by
 unfold Wqa
 rw [rcpt_tb]
 by_cases c1:e≤2
 ·rw [if_pos c1,if_pos c1]
  by_cases hk:k=2
  ·rw [if_pos hk,if_pos hk,Wsa]
  ·rw [if_neg hk,if_neg hk];rfl
 rw [if_neg c1,if_neg c1]
 by_cases c2:e≤many t+2
 ·rw [if_pos (show e≤many (tb t b)+2 from c2),if_pos c2]
  by_cases c3:e=many t+2∧t.C.Pipelined=false∧anyO (k4a t k e).C.Results=false
  ·rw [if_pos (show e=many (tb t b)+2∧(tb t b).C.Pipelined=false∧anyO (tb (k4a t k e) b).C.Results=false from c3),if_pos c3];rfl
  ·rw [if_neg (show ¬(e=many (tb t b)+2∧(tb t b).C.Pipelined=false∧anyO (tb (k4a t k e) b).C.Results=false) from c3),if_neg c3,Wsa]
 rw [if_neg (show ¬e≤many (tb t b)+2 from c2),if_neg c2]
 by_cases c3:e=many t+3
 ·rw [if_pos (show e=many (tb t b)+3 from c3),if_pos c3]
  by_cases hk:k=3
  ·rw [if_pos hk,if_pos hk]
   by_cases ha:anyO t.C.Results=false
   ·rw [if_pos (show anyO (tb t b).C.Results=false from ha),if_pos ha];rfl
   ·rw [if_neg (show ¬anyO (tb t b).C.Results=false from ha),if_neg ha];rfl
  ·rw [if_neg hk,if_neg hk];rfl
 rw [if_neg (show ¬e=many (tb t b)+3 from c3),if_neg c3]
 by_cases hk:k=2
 ·rw [if_pos hk,if_pos hk];rfl
 ·rw [if_neg hk,if_neg hk];rfl
theorem Wta (k:Int):0≤v0a k∧v0a k≤4:=by unfold v0a;split <;> decide
theorem kjb {r x:Int} (hr:0≤r∧r≤4) (hx:0≤x∧x≤4):0≤y2a r x∧y2a r x≤4:=by unfold y2a;split <;> assumption
theorem YZa {t:Talk} (iv:CInv t.C) {r:Int} (hr:0≤r∧r≤4):CInv (restP t r).C:=
 ⟨⟨iv.good.name,iv.good.mail⟩,by show (Qra t.C.Results r).length=_;rw [keb];exact iv.len,iv.e0,iv.e1,fun x hx=> by
  obtain ⟨y,hy,rfl⟩:=List.mem_map.1 (show x∈Qra t.C.Results r from hx)
  exact kjb hr (iv.rng y hy)⟩
def Qsa (a b:List Int):Prop:=∀(i:Nat) x,a[i]? =some x→x≠0→b[i]? =some x
theorem v9a (a:List Int):Qsa a a:=fun _ _ h _=> h
theorem K4a {a b c:List Int} (h:Qsa a b) (h2:Qsa b c):Qsa a c:=fun i x hx h0=> h2 i x (h i x hx h0) h0
theorem QVa (l:List Int) (r:Int):Qsa l (Qra l r):=fun i x hx h0=> by
 unfold Qra
 rw [List.getElem?_map,hx]
 show some (y2a r x)=_
 unfold y2a
 rw [if_neg h0]
structure Wua (t u:Talk):Prop where
 inv:CInv u.C
 same:u.C.Name=t.C.Name∧u.C.Mail=t.C.Mail∧u.C.Pipelined=t.C.Pipelined
 stays:Qsa t.C.Results u.C.Results
 opn:u.C.Done=true∨(u.C.Done=false∧COpn u.C)
 out:u.Out.length≤t.Out.length+900000
theorem wna {t:Talk} (iv:CInv t.C) {r:Int} (hr:0≤r∧r≤4):Wua t (K3a t r):=by
 have:=wma (o:=t.Out) z9b
 exact ⟨YZa iv hr,⟨rfl,rfl,rfl⟩,QVa _ _, .inl rfl,by show (jRa t.Out z7b).length≤_;omega⟩
theorem Wva (t:Talk) (k:Nat) (h1:1≤k) (h2:k≤many t+3):(askP t k).C.Whole=(t.C.Whole || (decide (k=many t+3) && rawP t.C.Mail.Message)):=by
 have hmt:many t=t.C.Mail.Envelope.To.length:=rfl
 unfold askP
 by_cases k1:k=1
 ·rw [if_pos k1,decide_eq_false (by omega)];simp
 rw [if_neg k1]
 by_cases k2:k=2
 ·rw [if_pos k2,decide_eq_false (by omega)];simp
 rw [if_neg k2]
 by_cases hk:k=many t+3
 ·rw [List.getElem?_eq_none (by omega),decide_eq_true hk]
  dsimp only
  split
  ·rename_i hr;rw [hr];simp
  ·rename_i hr;simp only [Bool.not_eq_true] at hr;rw [hr];simp
 ·rw [List.getElem?_eq_getElem (by omega),decide_eq_false hk];simp
theorem QWa:∀(m k:Nat) (t:Talk),1≤k→k+m=many t+4→0 < m→(jna m k t).C.Whole=(t.C.Whole || rawP t.C.Mail.Message)
 | 0,_,_,_,_,h=> by omega
 | m+1,k,t,h1,h2,_=> by
  show (jna m (k+1) (askP t k)).C.Whole=_
  have hw:=Wva t k h1 (by omega)
  have hM:=Kra t k
  have hmm:many (askP t k)=many t:=by show (askP t k).C.Mail.Envelope.To.length=_;rw [hM];rfl
  cases m with
  | zero=>
   show (askP t k).C.Whole=_
   rw [hw,decide_eq_true (by omega)];simp
  | succ m=>
   rw [QWa (m+1) (k+1) (askP t k) (by omega) (by omega) (by omega),hw,hM,decide_eq_false (by omega)]
   simp
def Yta (c:zja):Prop:=c.Whole=(decide (c.Expected=(c.Mail.Envelope.To.length:Int)+4) || (rawP c.Mail.Message && c.Pipelined && decide (2≤c.Expected)))
theorem kkb (t:Talk) (op:Yta t.C) (e:Nat) (he:t.C.Expected=(e:Int)) (h2:e≤many t+2) (hm:1≤many t):
  (onP1 t e).C.Whole=(rawP t.C.Mail.Message && (decide (e=many t+2) || (t.C.Pipelined && decide (1≤e)))):=by
 have hmt:many t=t.C.Mail.Envelope.To.length:=rfl
 have hw:t.C.Whole=(decide (t.C.Expected=(t.C.Mail.Envelope.To.length:Int)+4) || (rawP t.C.Mail.Message && t.C.Pipelined && decide (2≤t.C.Expected))):=op
 rw [he,decide_eq_false (show ¬(e:Int)=(t.C.Mail.Envelope.To.length:Int)+4 by omega),Bool.false_or] at hw
 have hw' :t.C.Whole=(rawP t.C.Mail.Message && t.C.Pipelined && decide (2≤e)):=by rw [hw];congr 1;rw [Bool.eq_iff_iff];simp;omega
 unfold onP1
 by_cases c1:t.C.Pipelined=false∨e=0
 ·rw [if_pos c1,Wva _ _ (by omega) (by show e+1≤many t+3;omega)]
  show (t.C.Whole || (decide (e+1=many t+3) && rawP t.C.Mail.Message))=_
  rw [hw']
  rcases c1 with hp | h0
  ·rw [hp]
   have:decide (e+1=many t+3)=decide (e=many t+2):=by rw [Bool.eq_iff_iff];simp
   rw [this]
   cases rawP t.C.Mail.Message <;> simp
  ·rw [decide_eq_false (show ¬2≤e by omega),decide_eq_false (show ¬e+1=many t+3 by omega),decide_eq_false (show ¬e=many t+2 by omega),decide_eq_false (show ¬1≤e by omega)]
   simp
 ·rw [if_neg c1]
  have hp:t.C.Pipelined=true:=by cases h:t.C.Pipelined with | true=> rfl | false=> exact absurd (.inl h) c1
  have h0:1≤e:=by have:¬e=0:=fun h=> c1 (.inr h);omega
  rw [hp,decide_eq_true h0]
  by_cases h1:e=1
  ·rw [if_pos h1,QWa _ _ _ (by omega) (by show 2+(many t+2)=many t+4;omega) (by omega)]
   show (t.C.Whole || rawP t.C.Mail.Message)=_
   rw [hw',decide_eq_false (show ¬2≤e by omega)]
   simp
  ·rw [if_neg h1]
   show t.C.Whole=_
   rw [hw',hp,decide_eq_true (show 2≤e by omega)]
   simp
theorem Z8a {t:Talk} (iv:CInv t.C) (op:Yta t.C) (hd:t.C.Done=false) (e:Nat) (he:t.C.Expected=(e:Int)) (h2:e≤many t+2)
  (hx:∀(i:Nat) x,t.C.Results[i]? =some x→(e:Int)+1≤(i:Int)+3→x=0):Wua t (qna t e):=by
 have hm:=(kua iv.good.mail).many
 have hmt:many t=t.C.Mail.Envelope.To.length:=rfl
 have hw:=kkb t op e he h2 (by omega)
 have hC:=on1_C t e
 have hl:=JMa iv.good e
 have hC2:(qna t e).C={t.C with Expected:=(qna t e).C.Expected,Whole:=(onP1 t e).C.Whole}:=by
  unfold qna
  split
  ·show ({(onP1 t e).C with Expected:=_}:zja)=_
   rw [hC];rfl
  ·rw [hC]
 have hE:(qna t e).C.Expected=if e+1=many t+3∧rawP t.C.Mail.Message=true then ((e+2:Nat):Int) else ((e+1:Nat):Int):=by
  unfold qna
  split
  ·rfl
  ·rw [hC]
 have hle:=iv.len
 refine ⟨?_, ?_, ?_, .inr ⟨?_, ?_⟩,by omega⟩
 ·rw [hC2]
  refine ⟨⟨iv.good.name,iv.good.mail⟩,iv.len, ?_, ?_,iv.rng⟩
  ·show 0≤(qna t e).C.Expected
   rw [hE];split <;> omega
  ·show (qna t e).C.Expected≤(t.C.Mail.Envelope.To.length:Int)+4
   rw [hE];split <;> omega
 ·rw [hC2];exact ⟨rfl,rfl,rfl⟩
 ·rw [hC2];exact v9a _
 ·rw [hC2];exact hd
 ·rw [hC2,hE]
  by_cases hc:e+1=many t+3∧rawP t.C.Mail.Message=true
  ·rw [if_pos hc]
   refine ⟨?_, ?_, ?_⟩
   ·show (onP1 t e).C.Whole=(decide (((e+2:Nat):Int)=(t.C.Mail.Envelope.To.length:Int)+4) || _)
    rw [hw,hc.2,decide_eq_true (show ((e+2:Nat):Int)=(t.C.Mail.Envelope.To.length:Int)+4 by omega),decide_eq_true (show e=many t+2 by omega)]
    rfl
   ·show ¬(rawP t.C.Mail.Message=true∧((e+2:Nat):Int)=(t.C.Mail.Envelope.To.length:Int)+3)
    omega
   ·intro i x hi h3
    have h3' :((e+2:Nat):Int)≤(i:Int)+3:=h3
    exact hx i x hi (by omega)
  ·rw [if_neg hc]
   refine ⟨?_, ?_, ?_⟩
   ·show (onP1 t e).C.Whole=(decide (((e+1:Nat):Int)=(t.C.Mail.Envelope.To.length:Int)+4) || (rawP t.C.Mail.Message && t.C.Pipelined && decide (2≤((e+1:Nat):Int))))
    rw [hw,decide_eq_false (show ¬((e+1:Nat):Int)=(t.C.Mail.Envelope.To.length:Int)+4 by omega)]
    have hd2:decide (2≤((e+1:Nat):Int))=decide (1≤e):=by rw [Bool.eq_iff_iff];simp;omega
    rw [hd2]
    cases hr:rawP t.C.Mail.Message with
    | false=> simp
    | true=>
     rw [decide_eq_false (show ¬e=many t+2 by intro h;exact hc ⟨by omega,hr⟩)]
     simp
   ·show ¬(rawP t.C.Mail.Message=true∧((e+1:Nat):Int)=(t.C.Mail.Envelope.To.length:Int)+3)
    rintro ⟨a,b⟩
    exact hc ⟨by omega,a⟩
   ·intro i x hi h3
    have h3' :((e+1:Nat):Int)≤(i:Int)+3:=h3
    exact hx i x hi (by omega)
theorem JOa {t:Talk} (iv:CInv t.C) (k:Int) (e:Nat) (h0:t.C.Results[e - 3]? =some 0):CInv (k4a t k e).C∧Qsa t.C.Results (k4a t k e).C.Results:=by
 unfold k4a
 split
 ·exact ⟨iv,v9a _⟩
 ·refine ⟨⟨⟨iv.good.name,iv.good.mail⟩, ?_,iv.e0,iv.e1, ?_⟩, ?_⟩
  ·show (t.C.Results.set (e - 3) (v0a k)).length=_
   rw [List.length_set];exact iv.len
  ·intro r hr
   rcases List.mem_or_eq_of_mem_set (show r∈t.C.Results.set (e - 3) (v0a k) from hr) with h | h
   ·exact iv.rng r h
   ·rw [h];exact Wta k
  ·intro i x hx hn
   show (t.C.Results.set (e - 3) (v0a k))[i]? =some x
   rw [List.getElem?_set]
   by_cases hi:e - 3=i
   ·rw [hi] at h0
    rw [hx] at h0
    cases h0
    exact absurd rfl hn
   ·rw [if_neg hi];exact hx
theorem after_of {t u v:Talk} (hs:u.C.Name=t.C.Name∧u.C.Mail=t.C.Mail∧u.C.Pipelined=t.C.Pipelined) (hst:Qsa t.C.Results u.C.Results) (hl:u.Out.length=t.Out.length) (h2:Wua u v):Wua t v:=
 ⟨h2.inv,⟨h2.same.1.trans hs.1,h2.same.2.1.trans hs.2.1,h2.same.2.2.trans hs.2.2⟩,K4a hst h2.stays,h2.opn,by have:=h2.out;omega⟩
theorem JPa {t:Talk} (iv:CInv t.C) (op:COpn t.C) (hd:t.C.Done=false) (k:Int) (e:Nat) (he:t.C.Expected=(e:Int)):Wua t (Wqa t k e):=by
 have hm:=(kua iv.good.mail).many
 have gm:=kua iv.good.mail
 have hmt:many t=t.C.Mail.Envelope.To.length:=rfl
 have hlen:=iv.len
 have hmr:=Wta k
 unfold Wqa
 by_cases c1:e≤2
 ·rw [if_pos c1]
  split
  ·exact Z8a iv op.whole hd e he (by omega) (fun i x hi h=> op.opn i x hi (by omega))
  ·exact wna iv hmr
 rw [if_neg c1]
 by_cases c2:e≤many t+2
 ·rw [if_pos c2]
  have h0:t.C.Results[e - 3]? =some 0:=by
   rw [List.getElem?_eq_getElem (by omega)]
   congr 1
   exact op.opn (e - 3) _ (List.getElem?_eq_getElem (by omega)) (by omega)
  have hR:=khb t k e
  obtain ⟨iu,su⟩:=JOa iv k e h0
  have hs:(k4a t k e).C.Name=t.C.Name∧(k4a t k e).C.Mail=t.C.Mail∧(k4a t k e).C.Pipelined=t.C.Pipelined:=by rw [hR.1];exact ⟨rfl,rfl,rfl⟩
  refine after_of hs su (by rw [hR.2]) ?_
  split
  ·exact wna iu (by decide)
  ·have ow:Yta (k4a t k e).C:=by rw [hR.1];exact op.whole
   have hmm:many (k4a t k e)=many t:=by show (k4a t k e).C.Mail.Envelope.To.length=_;rw [hs.2.1];rfl
   refine Z8a iu ow (by rw [hR.1];exact hd) e (by rw [hR.1];exact he) (by omega) (fun i x hi h=> ?_)
   unfold k4a at hi
   split at hi
   ·exact op.opn i x hi (by omega)
   ·refine op.opn i x ?_ (by omega)
    have hi' :(t.C.Results.set (e - 3) (v0a k))[i]? =some x:=hi
    rw [List.getElem?_set,if_neg (by omega)] at hi'
    exact hi'
 rw [if_neg c2]
 by_cases c3:e=many t+3
 ·rw [if_pos c3]
  have hnr:rawP t.C.Mail.Message=false:=by
   cases hr:rawP t.C.Mail.Message with
   | false=> rfl
   | true=> exact absurd ⟨hr,by omega⟩ op.nr
  split
  ·split
   ·exact ⟨⟨⟨iv.good.name,iv.good.mail⟩,iv.len,iv.e0,iv.e1,iv.rng⟩,⟨rfl,rfl,rfl⟩,v9a _, .inl rfl,by show t.Out.length≤_;omega⟩
   ·have hsl:=Wra t.C.Mail.Message gm.big
    refine ⟨⟨⟨iv.good.name,iv.good.mail⟩,iv.len, ?_, ?_,iv.rng⟩,⟨rfl,rfl,rfl⟩,v9a _, .inr ⟨hd, ?_, ?_, ?_⟩, ?_⟩
    ·show (0:Int)≤((many t+4:Nat):Int);omega
    ·show ((many t+4:Nat):Int)≤(t.C.Mail.Envelope.To.length:Int)+4;omega
    ·show true=(decide (((many t+4:Nat):Int)=(t.C.Mail.Envelope.To.length:Int)+4) || _)
     rw [decide_eq_true (show ((many t+4:Nat):Int)=(t.C.Mail.Envelope.To.length:Int)+4 by omega)];rfl
    ·show ¬(rawP t.C.Mail.Message=true∧_)
     rw [hnr];simp
    ·intro i x hi h
     have h' :((many t+4:Nat):Int)≤(i:Int)+3:=h
     have:=kTa (show t.C.Results[i]? =some x from hi)
     omega
    ·show (t.Out++JNa (zoa t.C.Mail.Message)).length≤_
     simp only [List.length_append];omega
  ·exact wna iv hmr
 rw [if_neg c3]
 split
 ·exact wna iv (by decide)
 ·exact wna iv hmr
end Go.Proofs.YtjnmamghadpedaaGreatDoor
namespace Go.Proofs.YtjnmamghadpedaaGreatDoor
open Go.RowKit
def noCR:Str→Bool
 | c::d::r=> !(c==13 && d==10) && noCR (d::r)
 | _=> true
theorem vca {c d:UInt8} {r:Str}:noCR (c::d::r)=true↔¬(c=13∧d=10)∧noCR (d::r)=true:=by
 rw [noCR,Bool.and_eq_true]
 by_cases h1:c=13 <;> by_cases h2:d=10 <;> simp [h1,h2]
theorem klb (l:Str):∀cur r,noCR l=true→fl cur (l++13::10::r)=((cur++l)::(fl [] r).1,(fl [] r).2):=by
 induction l with
 | nil=> intro cur r _;simp [z3b]
 | cons c l ih=>
  intro cur r h
  cases l with
  | nil=>
   simp only [List.cons_append,List.nil_append]
   rw [VDa (by rintro ⟨_,h⟩;cases h),z3b]
  | cons d l=>
   obtain ⟨h1,h2⟩:=vca.1 h
   simp only [List.cons_append]
   rw [VDa h1]
   have:=ih (cur++ [c]) r h2
   simp only [List.cons_append] at this
   rw [this]
   simp
theorem kmb (l:Str) (c d:UInt8):noCR (l++ [c])=true→¬(c=13∧d=10)→noCR (l++ [c,d])=true:=by
 induction l with
 | nil=> intro _ h;simp only [List.nil_append];exact vca.2 ⟨h,rfl⟩
 | cons x l ih=>
  intro h1 h2
  cases l with
  | nil=>
   simp only [List.nil_append,List.cons_append] at h1 ih ⊢
   obtain ⟨a,b⟩:=vca.1 h1
   exact vca.2 ⟨a,ih b h2⟩
  | cons y l=>
   simp only [List.cons_append] at h1 ih ⊢
   obtain ⟨a,b⟩:=vca.1 h1
   exact vca.2 ⟨a,ih b h2⟩
theorem noCR_pre (l m:Str):noCR (l++m)=true→noCR l=true:=by
 induction l with
 | nil=> intro _;rfl
 | cons x l ih=>
  intro h
  cases l with
  | nil=> rfl
  | cons y l=>
   simp only [List.cons_append] at h ih
   obtain ⟨a,b⟩:=vca.1 h
   exact vca.2 ⟨a,ih b⟩
theorem fl_lines (l cur:Str):noCR (cur++l.take 1)=true→∀x∈(fl cur l).1,noCR x=true:=by
 fun_induction fl cur l with
 | case1 cur=> simp
 | case2 cur c=> simp
 | case3 cur c d r h ih=>
  intro hc x hx
  rcases List.mem_cons.1 hx with rfl | hx
  ·exact noCR_pre _ _ hc
  ·refine ih ?_ x hx
   cases r <;> rfl
 | case4 cur c d r h ih=>
  intro hc
  refine ih ?_
  have:=kmb cur c d (by simpa using hc) h
  simpa using this
theorem Wwa (l:Str):∀x∈(fl [] l).1,noCR x=true:=fl_lines l [] (by cases l <;> rfl)
end Go.Proofs.YtjnmamghadpedaaGreatDoor
namespace Go.Proofs.YtjnmamghadpedaaGreatDoor
open Go.RowKit
set_option maxHeartbeats 1000000
set_option maxRecDepth 20000
theorem rdQ_any {s:Str} {n:Nat} (h:rdQ s=some n):s.any rlnC=false:=by
 unfold rdQ at h
 split at h
 ·split at h
  ·rename_i hc
   simp only [Bool.and_eq_true,Bool.not_eq_true'] at hc
   exact hc.1.2
  ·cases h
 ·cases h
theorem knb:∀(r:List Str) (i:Nat) (acc:List Str) (prev:Int) (v:PR),parP r i acc prev=some v→v.2.2.Code=0→acc.length=i→i≤20→(∀s∈acc,s.length≤500∧s.any rlnC=false)→ROk v.1
 | [],_,_,_,_,h,_,_,_,_=> by cases h
 | s::r,i,acc,prev,v,h,h0,hl,hi,ha=> by
  rw [parP] at h
  split at h
  ·cases h;cases h0
  ·rename_i h20
   split at h
   ·cases h;cases h0
   ·rename_i n hn
    have hq:=z1b hn
    have hany:=rdQ_any hn
    split at h
    ·cases h;cases h0
    ·rename_i h504
     have hs:(s.drop 4).length≤500∧(s.drop 4).any rlnC=false:=by
      refine ⟨by rw [List.length_drop];omega, ?_⟩
      rw [List.any_eq_false] at hany ⊢
      exact fun x hx=> hany x (List.mem_of_mem_drop hx)
     have ha' :∀x∈acc++ [s.drop 4],x.length≤500∧x.any rlnC=false:=by
      intro x hx
      rcases List.mem_append.1 hx with h | h
      ·exact ha x h
      ·rw [List.mem_singleton.1 h];exact hs
     split at h
     ·cases h;cases h0
     ·split at h
      ·cases h
       exact ⟨⟨n,rfl,hq.2⟩,by simp;omega,ha'⟩
      ·exact knb r _ _ _ v h h0 (by simp;omega) (by omega) ha'
theorem Y0a {l:List Str} (h:(wla l).2.2.Code=0):ROk (wla l).1:=by
 unfold wla at h ⊢
 split at h
 ·cases h
 ·rename_i h300
  rw [if_neg h300]
  cases hp:parP l 0 [] 0 with
  | none=> rw [hp] at h;cases h
  | some v=>
   rw [hp] at h
   exact knb l 0 [] 0 v hp h rfl (by omega) (fun _ h=> by cases h)
theorem rOk_sm {r:kva} (h:ROk r):smLn r.Lines:=⟨by have:=h.len;omega,fun s hs=> by have:=(h.lines s hs).1;omega⟩
def wxa (l:List Str):Int:=(wla l).2.2.Code
def badL (acc:List Str) (x:Str):Prop:=4000 < x.length∨(wxa (acc++ [x])≠0∧wxa (acc++ [x])≠9)
instance (acc:List Str) (x:Str):Decidable (badL acc x):=inferInstanceAs (Decidable (_∨_))
inductive Scan where
 | wait
 | broken
 | said (r:kva) (ls:List Str)
def K5a:List Str→List Str→Scan
 | _, []=> .wait
 | acc,x::r=> if badL acc x then .broken else if wxa (acc++ [x])=0 then .said (wla (acc++ [x])).1 r else K5a (acc++ [x]) r
def woa (t:Talk) (r:kva):Talk:=Wqa t (iQuo r.Code 100) t.C.Expected.toNat
def VIa (t:Talk):Talk:=restP t (bif t.C.Whole then 4 else 2)
def runP:Talk→List Str→List Str→Talk × List Str
 | t,acc, []=> (t,acc)
 | t,acc,x::r=> if badL acc x then (VIa t, []) else if wxa (acc++ [x])=0 then (if (woa t (wla (acc++ [x])).1).C.Done=true then (woa t (wla (acc++ [x])).1, []) else runP (woa t (wla (acc++ [x])).1) [] r) else runP t (acc++ [x]) r
theorem Y1a (t:Talk):∀(ls acc:List Str),runP t acc ls=match K5a acc ls with
  | .wait=> (t,acc++ls)
  | .broken=> (VIa t, [])
  | .said r q=> if (woa t r).C.Done=true then (woa t r, []) else runP (woa t r) [] q
 | [],acc=> by simp [runP,K5a]
 | x::r,acc=> by
  rw [runP,K5a]
  by_cases hb:badL acc x
  ·rw [if_pos hb,if_pos hb]
  rw [if_neg hb,if_neg hb]
  by_cases hc:wxa (acc++ [x])=0
  ·rw [if_pos hc,if_pos hc]
  rw [if_neg hc,if_neg hc,Y1a t r (acc++ [x])]
  cases K5a (acc++ [x]) r <;> simp
theorem Wxa:∀(ls acc:List Str) {r:kva} {q:List Str},K5a acc ls= .said r q→ROk r∧∃p,ls=p++q∧1≤p.length
 | [],acc,r,q,h=> by cases h
 | x::l,acc,r,q,h=> by
  rw [K5a] at h
  split at h
  ·cases h
  ·split at h
   ·rename_i hc
    cases h
    exact ⟨Y0a hc, [x],rfl,by simp⟩
   ·obtain ⟨h1,p,h2,h3⟩:=Wxa l _ h
    exact ⟨h1,x::p,by rw [h2];rfl,by simp⟩
theorem JQa {x:Str} (h:noCR x=true) (r:Str):Lib.index (x++13::10::r) [13,10]=(x.length:Int):=by
 have hf:=klb x [] r h
 have hg:=Lib.index_ge (x++13::10::r) [13,10]
 by_cases hi:Lib.index (x++13::10::r) [13,10]= -1
 ·rw [z4b _ [] hi] at hf
  cases hf
 ·obtain ⟨k,hk⟩:∃k:Nat,Lib.index (x++13::10::r) [13,10]=(k:Int):=⟨(Lib.index (x++13::10::r) [13,10]).toNat,by omega⟩
  obtain ⟨h1,h2⟩:=Yra _ [] k hk
  rw [h2] at hf
  have h3:(x++13::10::r).take k=x:=by
   have:=congrArg (fun p=> p.1.head?) hf
   simpa using this
  have h4:=congrArg List.length h3
  rw [List.length_take] at h4
  rw [hk];omega
theorem JRa {x:Str} (h:(fl [] x).1= []):Lib.index x [13,10]= -1:=by
 have hg:=Lib.index_ge x [13,10]
 by_cases hi:Lib.index x [13,10]= -1
 ·exact hi
 ·obtain ⟨k,hk⟩:∃k:Nat,Lib.index x [13,10]=(k:Int):=⟨(Lib.index x [13,10]).toNat,by omega⟩
  obtain ⟨h1,h2⟩:=Yra _ [] k hk
  rw [h2] at h
  cases h
theorem kob:∀(ls:List Str),(∀x∈ls,noCR x=true)→∀r,fl [] (zCa ls++r)=(ls++(fl [] r).1,(fl [] r).2)
 | [],_,r=> by simp [zCa]
 | x::ls,h,r=> by
  have e:zCa (x::ls)++r=x++13::10::(zCa ls++r):=by rw [ZQa];simp
  rw [e,klb x [] _ (h x (by simp)),kob ls (fun y hy=> h y (by simp [hy])) r]
  simp
theorem fl_tail (b:Str):(fl [] (fl [] b).2).1= []:=by
 have h:=kob (fl [] b).1 (Wwa b) (fl [] b).2
 rw [VFa] at h
 have:=congrArg (fun p=> p.1.length) h
 simp only [List.length_append] at this
 exact List.eq_nil_of_length_eq_zero (by omega)
theorem Zra (a b:List Str):zCa (a++b)=zCa a++zCa b:=by simp [zCa]
theorem Wya {x:Str}:∀{ls:List Str},x∈ls→x.length≤(zCa ls).length
 | y::ls,h=> by
  rw [z6b]
  rcases List.mem_cons.1 h with rfl | h
  ·omega
  ·have:=Wya h;omega
theorem K6a (ls:List Str):2 * ls.length≤(zCa ls).length:=YTa ls
theorem sm_flat {ls:List Str} (h:(zCa ls).length≤40000):smLn ls:=⟨by have:=K6a ls;omega,fun s hs=> by have:=Wya hs;omega⟩
theorem kpb (t:Talk) (b:List UInt8) (w:Bool) (hl:t.C.Results.length≤1048576):koa (ses t b w)=some (ses (VIa t) b w):=by
 unfold koa
 have hr:∀r,z7a (ses t b w) r=_:=fun r=> kfb (ses t b w) r hl
 show ((bif t.C.Whole then some 4 else some 2:Option Int).bind _)=_
 unfold VIa
 cases t.C.Whole with
 | true=> simp only [cond_true,Option.bind_some,hr];rfl
 | false=> simp only [cond_false,Option.bind_some,hr];rfl
theorem hearS_eq (t:Talk) (iv:CInv t.C) (op:COpn t.C) (ho:t.Out.length≤90000000000) {r:kva} (hr:ROk r) (b:List UInt8):
  kpa (ses (tb t b) (zoa t.C.Mail.Message) (rawP t.C.Mail.Message)) r=some (ses (tb (woa t r) b) (zoa t.C.Mail.Message) (rawP t.C.Mail.Message)):=by
 have he:t.C.Expected=((t.C.Expected.toNat:Nat):Int):=by have:=iv.e0;omega
 have iv' :CInv (tb t b).C:=⟨⟨iv.good.name,iv.good.mail⟩,iv.len,iv.e0,iv.e1,iv.rng⟩
 have op' :COpn (tb t b).C:=⟨op.whole,op.nr,op.opn⟩
 have h:=hear_eq (tb t b) iv' op' ho r (by rw [z0b hr]) (rOk_sm hr) _ he
 rw [hear_tb] at h
 exact h
theorem Wza (t:Talk) (iv:CInv t.C) (op:COpn t.C) (ho:t.Out.length≤90000000000) (rest:Str) (hrest:(fl [] rest).1= []) (b:Str) (hb:b.length≤40000):∀(ls acc:List Str),b=zCa acc++(zCa ls++rest)→(∀x∈ls,noCR x=true)→
  iter (z3a (ses (tb t b) (zoa t.C.Mail.Message) (rawP t.C.Mail.Message))) (((zCa acc).length:Int),acc)=some (match K5a acc ls with
   | .wait=> (false,ses (tb t b) (zoa t.C.Mail.Message) (rawP t.C.Mail.Message))
   | .broken=> (false,ses (tb (VIa t) b) (zoa t.C.Mail.Message) (rawP t.C.Mail.Message))
   | .said r q=> (true,ses (tb (woa t r) (zCa q++rest)) (zoa t.C.Mail.Message) (rawP t.C.Mail.Message)))
 | [],acc,h,_=> by
  have hm:=(kua iv.good.mail).many
  have h' :b=zCa acc++rest:=by rw [h];simp [zCa]
  have hd:b.drop (zCa acc).length=rest:=by rw [h'];exact List.drop_left
  have hl:(zCa acc).length≤b.length:=by rw [h'];simp
  refine zOa ?_
  unfold z3a
  show ((cut b ((zCa acc).length:Int) (b.length:Int)).bind _)=_
  rw [jya hl,hd]
  simp only [Option.bind_some,qwa]
  rw [if_pos (by
        have:rest.length≤b.length:=by (rw [h'];simp)
        exact ⟨by omega,rfl⟩),JRa hrest]
  rfl
 | x::ls,acc,h,hn=> by
  have hm:=(kua iv.good.mail).many
  have h' :b=zCa acc++(x++13::10::(zCa ls++rest)):=by rw [h,ZQa];simp
  have hd:b.drop (zCa acc).length=x++13::10::(zCa ls++rest):=by rw [h'];exact List.drop_left
  have hbl:b.length=(zCa acc).length+x.length+2+(zCa ls).length+rest.length:=by rw [h'];simp;omega
  have hsn:zCa (acc++ [x])=zCa acc++x++ [13,10]:=by rw [Zra];simp [zCa]
  have hsm:smLn (acc++ [x]):=sm_flat (by rw [hsn];simp;omega)
  have hcut:cut b ((zCa acc).length:Int) (((zCa acc).length+x.length:Nat):Int)=some x:=by
   rw [YNa (by omega) (by omega),hd]
   simp
  have hcut2:cut b (((zCa acc).length+x.length+2:Nat):Int) (b.length:Int)=some (zCa ls++rest):=by
   rw [jya (by omega)]
   congr 1
   rw [h',show (zCa acc).length+x.length+2=(zCa acc++(x++ [13,10])).length by simp;omega,show zCa acc++(x++13::10::(zCa ls++rest))=(zCa acc++(x++ [13,10]))++(zCa ls++rest) by simp]
   exact List.drop_left
  have hcnt:=K6a acc
  have hbody:z3a (ses (tb t b) (zoa t.C.Mail.Message) (rawP t.C.Mail.Message)) (((zCa acc).length:Int),acc)=
    some (if badL acc x then .out (false,ses (tb (VIa t) b) (zoa t.C.Mail.Message) (rawP t.C.Mail.Message)) else if wxa (acc++ [x])=0 then .out (true,ses (tb (woa t (wla (acc++ [x])).1) (zCa ls++rest)) (zoa t.C.Mail.Message) (rawP t.C.Mail.Message)) else .cont (((zCa (acc++ [x])).length:Int),acc++ [x])):=by
   unfold z3a
   show ((cut b ((zCa acc).length:Int) (b.length:Int)).bind _)=_
   rw [jya (by omega),hd]
   simp only [Option.bind_some,qwa]
   rw [if_pos ⟨by simp;omega,rfl⟩,JQa (hn x (by simp))]
   simp only [Option.bind_some]
   rw [decide_eq_false (show ¬((x.length:Int) < 0) by omega)]
   simp only [cond_false]
   rw [QKa _ _ (by omega)]
   show ((cut b ((zCa acc).length:Int) (((zCa acc).length+x.length:Nat):Int)).bind _)=_
   rw [hcut]
   simp only [Option.bind_some]
   rw [qVa (by simp;omega)]
   simp only [Option.bind_some]
   rw [Qpa _ hsm]
   simp only [Option.bind_some]
   rw [w64_nl _ 2 (by show x.length+2≤_;omega),QKa _ _ (by show (zCa acc).length+(x.length+2)≤_;omega)]
   have hco:(wla (acc++ [x])).2.2.Code=wxa (acc++ [x]):=rfl
   rw [hco]
   have hj:((bif decide (4000 < (x.length:Int)) then some ((((zCa acc).length+(x.length+2):Nat):Int),true) else (bif (wxa (acc++ [x]) !=0) then some ((((zCa acc).length+(x.length+2):Nat):Int),(wxa (acc++ [x]) !=9)) else some ((((zCa acc).length+(x.length+2):Nat):Int),false))):Option (Int × Bool))=some ((((zCa acc).length+(x.length+2):Nat):Int),decide (badL acc x)):=by
    by_cases h1:4000 < x.length
    ·have hb1:badL acc x:=Or.inl h1
     rw [decide_eq_true (show (4000:Int) < (x.length:Int) by omega),decide_eq_true hb1];rfl
    ·rw [decide_eq_false (show ¬(4000:Int) < (x.length:Int) by omega)]
     by_cases h2:wxa (acc++ [x])=0
     ·have hb1:¬badL acc x:=by unfold badL;omega
      rw [show (wxa (acc++ [x]) !=0)=false by simp [h2],decide_eq_false hb1];rfl
     ·rw [show (wxa (acc++ [x]) !=0)=true by simpa using h2]
      by_cases h3:wxa (acc++ [x])=9
      ·have hb1:¬badL acc x:=by unfold badL;omega
       rw [show (wxa (acc++ [x]) !=9)=false by simp [h3],decide_eq_false hb1];rfl
      ·have hb1:badL acc x:=Or.inr ⟨h2,h3⟩
       rw [show (wxa (acc++ [x]) !=9)=true by simpa using h3,decide_eq_true hb1];rfl
   rw [hj]
   simp only [Option.bind_some]
   by_cases hbad:badL acc x
   ·rw [decide_eq_true hbad,if_pos hbad]
    simp only [cond_true]
    rw [kpb (tb t b) _ _ (by show t.C.Results.length≤_;have:=iv.len;omega)]
    rfl
   ·rw [decide_eq_false hbad,if_neg hbad]
    simp only [cond_false]
    by_cases hc:wxa (acc++ [x])=0
    ·rw [show (wxa (acc++ [x])==0)=true by rw [beq_iff_eq];exact hc,if_pos hc]
     simp only [cond_true]
     show ((cut b (((zCa acc).length+x.length+2:Nat):Int) (b.length:Int)).bind _)=_
     rw [hcut2]
     simp only [Option.bind_some]
     exact yna (hearS_eq t iv op ho (Y0a hc) (zCa ls++rest)) rfl
    ·rw [show (wxa (acc++ [x])==0)=false by rw [beq_eq_false_iff_ne];exact hc,if_neg hc]
     simp only [cond_false]
     rw [show (zCa (acc++ [x])).length=(zCa acc).length+(x.length+2) by rw [hsn];simp]
  rw [K5a]
  by_cases hbad:badL acc x
  ·rw [if_pos hbad] at hbody ⊢
   exact zOa hbody
  rw [if_neg hbad] at hbody ⊢
  by_cases hc:wxa (acc++ [x])=0
  ·rw [if_pos hc] at hbody ⊢
   exact zOa hbody
  rw [if_neg hc] at hbody ⊢
  rw [z9a hbody]
  exact Wza t iv op ho rest hrest b hb ls (acc++ [x]) (by rw [hsn,h'];simp) (fun y hy=> hn y (by simp [hy]))
end Go.Proofs.YtjnmamghadpedaaGreatDoor
namespace Go.Proofs.YtjnmamghadpedaaGreatDoor
open Go.RowKit
set_option maxHeartbeats 1000000
set_option maxRecDepth 20000
theorem K7a {t:Talk} (iv:CInv t.C) (op:COpn t.C) (hd:t.C.Done=false) (r:kva):Wua t (woa t r):=
 JPa iv op hd _ _ (by have:=iv.e0;omega)
theorem JSa {t:Talk} (iv:CInv t.C):Wua t (VIa t):=by
 have hr:0≤(bif t.C.Whole then (4:Int) else 2)∧(bif t.C.Whole then (4:Int) else 2)≤4:=by cases t.C.Whole <;> decide
 exact ⟨YZa iv hr,⟨rfl,rfl,rfl⟩,QVa _ _, .inl rfl,by show t.Out.length≤_;omega⟩
theorem next_eq (t:Talk) (iv:CInv t.C) (op:COpn t.C) (ho:t.Out.length≤90000000000) (rest:Str) (hrest:(fl [] rest).1= []) (ls:List Str) (hb:(zCa ls++rest).length≤40000) (hn:∀x∈ls,noCR x=true):
  kqa (ses (tb t (zCa ls++rest)) (zoa t.C.Mail.Message) (rawP t.C.Mail.Message))=some (match K5a [] ls with
   | .wait=> (false,ses (tb t (zCa ls++rest)) (zoa t.C.Mail.Message) (rawP t.C.Mail.Message))
   | .broken=> (false,ses (tb (VIa t) (zCa ls++rest)) (zoa t.C.Mail.Message) (rawP t.C.Mail.Message))
   | .said r q=> (true,ses (tb (woa t r) (zCa q++rest)) (zoa t.C.Mail.Message) (rawP t.C.Mail.Message))):=by
 unfold kqa
 exact yna (Wza t iv op ho rest hrest _ hb ls [] (by simp [zCa]) hn) rfl
theorem WAa (S:zda) (h:S.Client.Done=true):iter kSa S=some S:=by
 refine zOa ?_
 unfold kSa
 rw [h]
 rfl
theorem WBa (rest:Str) (hrest:(fl [] rest).1= []) (m:kla):∀(n:Nat) (ls:List Str) (t:Talk),ls.length≤n→CInv t.C→COpn t.C→t.C.Done=false→t.C.Mail=m→t.Out.length+900000 * ls.length≤90000000000→(zCa ls++rest).length≤40000→(∀x∈ls,noCR x=true)→
  ∃B,iter kSa (ses (tb t (zCa ls++rest)) (zoa m.Message) (rawP m.Message))=some (ses (tb (runP t [] ls).1 B) (zoa m.Message) (rawP m.Message))∧((runP t [] ls).1.C.Done=false→B=zCa (runP t [] ls).2++rest)∧B.length≤40000
 | n,ls,t,hn,iv,op,hd,hm,ho,hb,hc=> by
  subst hm
  have hnx:=next_eq t iv op (by omega) rest hrest ls hb hc
  rw [Y1a]
  have hstep:∀p:Bool × zda,kqa (ses (tb t (zCa ls++rest)) (zoa t.C.Mail.Message) (rawP t.C.Mail.Message))=some p→
    kSa (ses (tb t (zCa ls++rest)) (zoa t.C.Mail.Message) (rawP t.C.Mail.Message))=some (bif p.1 then .cont p.2 else .out p.2):=by
   intro p hp
   unfold kSa
   show (((bif (!t.C.Done) then _ else _:Option (Bool × zda))).bind _)=_
   rw [hd,hp]
   show (bif p.1 then _ else _)=_
   cases p.1 <;> rfl
  cases hs:K5a [] ls with
  | wait=>
   rw [hs] at hnx
   exact ⟨zCa ls++rest,zOa (hstep _ hnx),fun _=> rfl,hb⟩
  | broken=>
   rw [hs] at hnx
   exact ⟨zCa ls++rest,zOa (hstep _ hnx),fun h=> (by cases h),hb⟩
  | said r q=>
   rw [hs] at hnx
   have hA:=K7a iv op hd r
   obtain ⟨_,p,hp,hp1⟩:=Wxa ls [] hs
   rw [z9a (hstep _ hnx)]
   dsimp only
   by_cases hdn:(woa t r).C.Done=true
   ·rw [if_pos hdn]
    have hfl:(zCa ls).length=(zCa p).length+(zCa q).length:=by rw [hp,Zra];simp
    exact ⟨zCa q++rest,WAa _ hdn,fun h=> (by rw [hdn] at h;cases h),by simp only [List.length_append] at hb ⊢;omega⟩
   ·rw [if_neg hdn]
    rcases hA.opn with h | ⟨hd2,op2⟩
    ·exact absurd h hdn
    have hl:ls.length=p.length+q.length:=by rw [hp];simp
    have hout:=hA.out
    cases n with
    | zero=> omega
    | succ n=>
     have hfl:(zCa ls).length=(zCa p).length+(zCa q).length:=by rw [hp,Zra];simp
     have:=WBa rest hrest t.C.Mail n q (woa t r) (by omega) hA.inv op2 hd2 hA.same.2.1 (by omega) (by simp only [List.length_append] at hb ⊢;omega) (fun x hx=> hc x (by rw [hp];simp [hx]))
     exact this
theorem inv_tb {t:Talk} (iv:CInv t.C) (b:Str):CInv (tb t b).C:=⟨⟨iv.good.name,iv.good.mail⟩,iv.len,iv.e0,iv.e1,iv.rng⟩
theorem opn_tb {t:Talk} (op:COpn t.C) (b:Str):COpn (tb t b).C:=⟨op.whole,op.nr,op.opn⟩
def endB (p:Talk × List Str) (rest:Str):Talk:=tb p.1 (if p.1.C.Done=true then [] else zCa p.2++rest)
end Go.Proofs.YtjnmamghadpedaaGreatDoor
namespace Go.Proofs.YtjnmamghadpedaaGreatDoor
open Go.RowKit
set_option maxHeartbeats 1000000
set_option maxRecDepth 20000
def vsa (n:Str) (m:kla):zsa:=if !yXa n then ⟨10, -20⟩ else Kfa m
structure kqb (c:zja):Prop where
 len:c.Results.length=c.Mail.Envelope.To.length
 rng:∀r∈c.Results,0≤r∧r≤4
 e0:0≤c.Expected
 e1:c.Expected≤(c.Mail.Envelope.To.length:Int)+4
 buf:c.Buffer.length≤40000
 opn:c.Done=false→COpn c
open Classical in
noncomputable def cliF (c:zja):zsa:=if (vsa c.Name c.Mail).Code≠0 then vsa c.Name c.Mail else if kqb c then ⟨0,0⟩ else ⟨5, -23⟩
structure yoa (c:zja):Prop where
 name:c.Name.length≤1048576
 env:Zka c.Mail.Envelope
 msg:yZa c.Mail.Message
 res:c.Results.length≤1048576
 buf:c.Buffer.length≤1048576
theorem Y2a (n:Str) (m:kla) (hn:n.length≤1048576) (h1:Zka m.Envelope) (h2:yZa m.Message):vaa n m=some (vsa n m):=by
 unfold vaa vsa
 rw [yma n hn,ZMa m h1 h2]
 cases yXa n <;> rfl
theorem ZSa {n:Str} {m:kla} (h:(vsa n m).Code=0):yXa n=true∧(Kfa m).Code=0:=by
 unfold vsa at h
 cases hn:yXa n with
 | false=> rw [hn] at h;cases h
 | true=> rw [hn] at h;exact ⟨rfl,h⟩
theorem write_eq {m:kla} (h:(Kfa m).Code=0) (h2:yZa m.Message):vqa m.Message=some (zoa m.Message,⟨0,0⟩):=by
 have gm:=kua h
 unfold vqa
 rw [wka _ h2]
 simp only [Option.bind_some,z5a,zPa,(Wla h).2,yta m.Message (by have:=gm.body;omega) gm.many60 gm.codes]
 rfl
theorem QXa {m:kla} (h:(Kfa m).Code=0) (h2:yZa m.Message):qma m.Message=some (zoa m.Message,rawP m.Message):=by
 have gm:=kua h
 have:=gm.big
 unfold qma
 rw [write_eq h h2]
 simp only [Option.bind_some]
 rw [jCa _ (by omega)]
 rfl
def openB (c:zja):Bool:=(z6a (fun i x=> if decide (c.Expected≤(i:Int)+3) && x !=0 then some false else none) 0 c.Results).getD true
theorem krb (c:zja):openB c=true↔∀(i:Nat) x,c.Results[i]? =some x→c.Expected≤(i:Int)+3→x=0:=by
 unfold openB
 cases hf:z6a (fun i x=> if decide (c.Expected≤(i:Int)+3) && x !=0 then some false else none) 0 c.Results with
 | none=>
  refine ⟨fun _ i x hx h=> ?_,fun _=> rfl⟩
  have:=vGa.1 hf i x hx
  rw [Nat.zero_add,decide_eq_true h] at this
  simpa using this
 | some b=>
  obtain ⟨i,x,hx,hq⟩:=jOa hf
  rw [Nat.zero_add] at hq
  split at hq
  ·rename_i hc
   cases hq
   simp only [Bool.and_eq_true,decide_eq_true_eq,bne_iff_ne] at hc
   refine ⟨fun h=> (by cases h),fun h=> absurd (h i x hx hc.1) hc.2⟩
  ·cases hq
theorem K8a (a b:Bool):(bif a then some false else some b:Option Bool)=some (!a && b):=by cases a <;> rfl
theorem open_eq (c:zja) (hs:yoa c) (h:(Kfa c.Mail).Code=0):∃b,wja c=some b∧(b=true↔COpn c):=by
 have hm:=(kua h).many
 have hr:=hs.res
 unfold wja
 rw [QXa h hs.msg]
 simp only [Option.bind_some]
 have e4:w64 ((c.Mail.Envelope.To.length:Int)+4)=(c.Mail.Envelope.To.length:Int)+4:=qfa (by omega) (by omega)
 have e3:w64 ((c.Mail.Envelope.To.length:Int)+3)=(c.Mail.Envelope.To.length:Int)+3:=qfa (by omega) (by omega)
 rw [e4,e3]
 have hloop:(iter (qUa c) 0).bind (Sum.elim (fun b14=> some true) (fun b15=> some b15))=some (openB c):=by
  rw [kra c.Results (fun i x=> if decide (c.Expected≤(i:Int)+3) && x !=0 then some false else none) (.inl ()) .inr]
  ·unfold openB
   cases z6a (fun i x=> if decide (c.Expected≤(i:Int)+3) && x !=0 then some false else none) 0 c.Results <;> rfl
  ·unfold qUa;rw [qda];rfl
  ·intro i x hx
   have hi:=kTa hx
   unfold qUa
   rw [vra hx,k3a hx]
   simp only [cond_true,Option.bind_some,sc i (by omega),show w64 ((i:Int)+3)=(i:Int)+3 from qfa (by omega) (by omega)]
   cases decide (c.Expected≤(i:Int)+3) <;> cases x !=0 <;> rfl
 rw [hloop]
 have hj:((bif (c.Expected==((c.Mail.Envelope.To.length:Int)+4)) then (bif (c.Whole !=true) then some true else (bif rawP c.Mail.Message then some ((c.Expected==((c.Mail.Envelope.To.length:Int)+3))) else some false)) else (bif rawP c.Mail.Message then (bif c.Pipelined then (bif (c.Whole !=decide (2≤c.Expected)) then some true else some ((c.Expected==((c.Mail.Envelope.To.length:Int)+3)))) else (bif (c.Whole !=false) then some true else some ((c.Expected==((c.Mail.Envelope.To.length:Int)+3))))) else (bif (c.Whole !=false) then some true else some false))):Option Bool)=
   some ((c.Whole !=(decide (c.Expected=(c.Mail.Envelope.To.length:Int)+4) || (rawP c.Mail.Message && c.Pipelined && decide (2≤c.Expected)))) || (rawP c.Mail.Message && decide (c.Expected=(c.Mail.Envelope.To.length:Int)+3))):=by
  have b4:(c.Expected==((c.Mail.Envelope.To.length:Int)+4))=decide (c.Expected=(c.Mail.Envelope.To.length:Int)+4):=by rw [Bool.eq_iff_iff];simp
  have b3:(c.Expected==((c.Mail.Envelope.To.length:Int)+3))=decide (c.Expected=(c.Mail.Envelope.To.length:Int)+3):=by rw [Bool.eq_iff_iff];simp
  rw [b4,b3]
  cases decide (c.Expected=(c.Mail.Envelope.To.length:Int)+4) <;> cases rawP c.Mail.Message <;> cases c.Pipelined <;> cases decide (2≤c.Expected) <;> cases c.Whole <;> cases decide (c.Expected=(c.Mail.Envelope.To.length:Int)+3) <;> rfl
 rw [hj]
 simp only [Option.bind_some]
 have hbi:=krb c
 refine ⟨_,(K8a _ _), ?_⟩
 rw [Bool.and_eq_true,hbi]
 simp only [Bool.not_eq_true',Bool.or_eq_false_iff,Bool.and_eq_false_iff,bne_eq_false_iff_eq,decide_eq_false_iff_not]
 constructor
 ·rintro ⟨⟨h1,h2⟩,h3⟩
  exact ⟨h1,fun ⟨a,b⟩=> h2.elim (fun h=> by rw [h] at a;cases a) (fun h=> h b),h3⟩
 ·intro o
  refine ⟨⟨o.whole, ?_⟩,o.opn⟩
  cases hr:rawP c.Mail.Message with
  | false=> exact .inl rfl
  | true=> exact .inr fun h=> o.nr ⟨hr,h⟩
theorem Y3a (c:zja) (hs:yoa c):vba c=some (cliF c):=by
 unfold vba cliF
 rw [Y2a _ _ hs.name hs.env hs.msg]
 simp only [Option.bind_some,z5a,zza,zPa]
 by_cases h0:(vsa c.Name c.Mail).Code=0
 ·rw [if_neg (by simp [h0])]
  obtain ⟨hn,hml⟩:=ZSa h0
  have hm:=(kua hml).many
  have hr:=hs.res
  rw [show ((vsa c.Name c.Mail).Code !=0)=false by simp [h0]]
  simp only [cond_false]
  have hloop:((iter (qCa c) 0).bind (Sum.elim (fun b10=> some ((-1))) (fun b11=> some b11)):Option Int)=some ((z6a (fun i x=> if (decide (x < 0) || decide (4 < x)) then some ((i:Nat):Int) else none) 0 c.Results).getD (-1)):=by
   rw [kra c.Results (fun i x=> if (decide (x < 0) || decide (4 < x)) then some ((i:Nat):Int) else none) (.inl ()) .inr]
   ·simp only [Option.bind_some,Vpa]
   ·unfold qCa;rw [qda];rfl
   ·intro i x hx
    have hi:=kTa hx
    unfold qCa
    rw [vra hx,k3a hx]
    simp only [cond_true,Option.bind_some,sc i (by omega)]
    cases decide (x < 0) <;> cases decide (4 < x) <;> rfl
  rw [hloop]
  simp only [Option.bind_some]
  rw [KNa (fun x=> decide (x < 0) || decide (4 < x)) c.Results 0]
  obtain ⟨ob,ho,hoi⟩:=open_eq c hs hml
  rw [ho,show w64 ((c.Mail.Envelope.To.length:Int)+4)=(c.Mail.Envelope.To.length:Int)+4 from qfa (by omega) (by omega)]
  have hj:∃j,((bif ((c.Results.length:Int) !=(c.Mail.Envelope.To.length:Int)) then some true else (bif (c.Results.any fun x=> decide (x < 0) || decide (4 < x)) then some true else (bif decide (c.Expected < 0) then some true else (bif decide ((c.Mail.Envelope.To.length:Int)+4 < c.Expected) then some true else (bif decide (40000 < (c.Buffer.length:Int)) then some true else (bif (!c.Done) then (some ob).bind fun v25=> some (!v25) else some false)))))):Option Bool)=some j∧(j=true↔¬kqb c):=by
   refine ⟨((c.Results.length:Int) !=(c.Mail.Envelope.To.length:Int)) || (c.Results.any fun x=> decide (x < 0) || decide (4 < x)) || decide (c.Expected < 0) || decide ((c.Mail.Envelope.To.length:Int)+4 < c.Expected) || decide (40000 < (c.Buffer.length:Int)) || (!c.Done && !ob), ?_, ?_⟩
   ·cases ((c.Results.length:Int) !=(c.Mail.Envelope.To.length:Int)) <;> cases (c.Results.any fun x=> decide (x < 0) || decide (4 < x)) <;> cases decide (c.Expected < 0) <;> cases decide ((c.Mail.Envelope.To.length:Int)+4 < c.Expected) <;> cases decide (40000 < (c.Buffer.length:Int)) <;> cases c.Done <;> cases ob <;> rfl
   ·rw [←Bool.not_eq_false,not_congr ?_]
    simp only [Bool.or_eq_false_iff,bne_eq_false_iff_eq,List.any_eq_false,Bool.and_eq_false_iff,decide_eq_false_iff_not,Bool.not_eq_false']
    constructor
    ·rintro ⟨⟨⟨⟨⟨h1,h2⟩,h3⟩,h4⟩,h5⟩,h6⟩
     refine ⟨by omega,fun r hr=> ?_,by omega,by omega,by omega,fun hd=> ?_⟩
     ·have:=h2 r hr
      simp only [Bool.or_eq_true,decide_eq_true_eq] at this
      omega
     ·rcases h6 with h6 | h6
      ·rw [hd] at h6;cases h6
      ·exact hoi.1 h6
    ·intro v
     have:=v.len;have:=v.e0;have:=v.e1;have:=v.buf
     refine ⟨⟨⟨⟨⟨by omega,fun r hr=> ?_⟩,by omega⟩,by omega⟩,by omega⟩, ?_⟩
     ·have:=v.rng r hr
      simp only [Bool.or_eq_true,decide_eq_true_eq]
      omega
     ·cases hd:c.Done with
      | true=> exact .inl rfl
      | false=> exact .inr (hoi.2 (v.opn hd))
  obtain ⟨j,hj1,hj2⟩:=hj
  rw [hj1]
  simp only [Option.bind_some]
  cases j with
  | true=> rw [if_neg (hj2.1 rfl)];rfl
  | false=> rw [if_pos (Classical.byContradiction fun h=> by have:=hj2.2 h;cases this)];rfl
 ·rw [if_pos h0,show ((vsa c.Name c.Mail).Code !=0)=true by simpa using h0]
  rfl
end Go.Proofs.YtjnmamghadpedaaGreatDoor
namespace Go.Proofs.YtjnmamghadpedaaGreatDoor
open Go.RowKit
set_option maxHeartbeats 1000000
set_option maxRecDepth 20000
theorem wpa {α:Type} {lim:Nat} (l:List α) (h:l.length≤lim):(nilE l.isEmpty (some ([]:List α)) ((app lim ([]:List α) l).bind fun v=> some v))=some l:=by
 rw [qVa (by simpa using h)]
 simp only [List.nil_append,Option.bind_some]
 exact zkb _ _ _ (fun he=> by rw [List.isEmpty_iff.1 he])
theorem K9a (m:kla) (h1:Zka m.Envelope) (h2:yZa m.Message):qca m=some m:=by
 obtain ⟨_,_,h1,_⟩:=h1
 obtain ⟨⟨h2,_⟩,h3⟩:=h2
 unfold qca
 rw [wpa m.Envelope.To (by omega)]
 simp only [Option.bind_some]
 rw [show zRa m.Message.Fields=some m.Message.Fields from wpa _ (by omega),wpa m.Message.Body (by omega)]
 rfl
theorem ksb (a b:List UInt8) (h:a.length+b.length≤2097152):kea [a,b]=some (a++b):=by
 have l1:iter (zYa [a,b]) (0,0)=some ((a.length+b.length:Nat):Int):=by
  have s1:zYa [a,b] (0,0)=some (.cont ((a.length:Int),1)):=by
   show (bif decide (w64 ((0:Int)+(a.length:Int)) < 0) then none else some (Step.cont (w64 ((0:Int)+(a.length:Int)),w64 ((0:Int)+1))):Option (Step (Int × Int) Int))=_
   rw [show w64 ((0:Int)+(a.length:Int))=(a.length:Int) by rw [qfa (by omega) (by omega)];omega,decide_eq_false (by omega)]
   rfl
  have s2:zYa [a,b] ((a.length:Int),1)=some (.cont (((a.length+b.length:Nat):Int),2)):=by
   show (bif decide (w64 ((a.length:Int)+(b.length:Int)) < 0) then none else some (Step.cont (w64 ((a.length:Int)+(b.length:Int)),w64 ((1:Int)+1))):Option (Step (Int × Int) Int))=_
   rw [QKa _ _ (by omega),decide_eq_false (by omega)]
   rfl
  rw [z9a s1,z9a s2]
  exact zOa rfl
 have hl2:∀s:List UInt8,s.length=0→iter (zZa [a,b]) (0,s)=some (a++b):=by
  intro s hs
  have hs0:s= []:=List.eq_nil_of_length_eq_zero hs
  subst hs0
  have s1:zZa [a,b] (0, [])=some (.cont (1,a)):=by
   show ((app 140737488355328 [] a).bind fun v20=> some (Step.cont (w64 ((0:Int)+1),v20)):Option (Step (Int × List UInt8) (List UInt8)))=_
   rw [qVa (by simp;omega)]
   rfl
  have s2:zZa [a,b] (1,a)=some (.cont (2,a++b)):=by
   show ((app 140737488355328 a b).bind fun v20=> some (Step.cont (w64 ((1:Int)+1),v20)):Option (Step (Int × List UInt8) (List UInt8)))=_
   rw [qVa (by omega)]
   rfl
  rw [z9a s1,z9a s2]
  exact zOa rfl
 unfold kea
 rw [l1]
 simp only [Option.bind_some]
 rw [decide_eq_false (show ¬((a.length+b.length:Nat):Int) < 0 by omega),show w64 (((a.length+b.length:Nat):Int) - w64 (0 - 0))=((a.length+b.length:Nat):Int) by rw [show w64 (0 - 0)=0 from rfl,qfa (by omega) (by omega)];omega]
 simp only [cond_false]
 by_cases h0:a.length+b.length=0
 ·rw [decide_eq_false (by omega)]
  have e1:a= []:=List.eq_nil_of_length_eq_zero (by omega)
  have e2:b= []:=List.eq_nil_of_length_eq_zero (by omega)
  subst e1;subst e2
  simp only [cond_false]
  refine yna (v:= []) ?_ rfl
  rw [z9a (show kga [([]:List UInt8), []] (0, [])=some (.cont (1, [])) from rfl),z9a (show kga [([]:List UInt8), []] (1, [])=some (.cont (2, [])) from rfl)]
  exact zOa rfl
 ·rw [decide_eq_true (by omega)]
  simp only [cond_true]
  unfold zrep
  rw [if_pos (by omega)]
  simp only [Option.bind_some]
  rw [show cut (List.replicate ((a.length+b.length:Nat):Int).toNat (0:UInt8)) 0 0=some [] from (QLa (b:=0) (by simp)).trans (by simp)]
  simp only [Option.bind_some]
  rw [hl2 [] rfl]
  rfl
theorem WCa (l:List Int) (h:l.length≤1048576):KMa l l=some true:=by
 unfold KMa
 rw [show ((l.length:Int) !=(l.length:Int))=false by simp]
 simp only [cond_false]
 rw [kra l (fun _ _=> none) (.inl ()) .inr]
 ·have:z6a (fun _ _=> (none:Option Bool)) 0 l=none:=by rw [vGa];intro i x _;rfl
  rw [this];rfl
 ·unfold Zga;rw [qda];rfl
 ·intro i f hx
  have hi:=kTa hx
  unfold Zga
  rw [vra hx,k3a hx]
  simp only [cond_true,Option.bind_some,sc i (by omega)]
  simp
def noC:zja:=⟨[],⟨⟨[], [], []⟩,⟨[], []⟩⟩,false, [],0,false,false, []⟩
def kQa (c:zja) (d:List UInt8):Talk:=if c.Done=true then tb ⟨c, []⟩ [] else endB (runP ⟨c, []⟩ [] (fl [] (c.Buffer++d)).1) (fl [] (c.Buffer++d)).2
noncomputable def WDa (c:zja) (d:List UInt8):zja × List UInt8 × zsa:=
 if (cliF c).Code≠0 then (noC, [],cliF c) else if 40000 < c.Buffer.length+d.length then (noC, [],⟨1, -1⟩) else ((kQa c d).C,(kQa c d).Out,⟨0,0⟩)
structure Qta (c:zja):Prop where
 inv:CInv c
 opn:c.Done=false→COpn c
 buf:c.Buffer.length≤40000
 small:yoa c
theorem ktb {c:zja} (hs:yoa c) (h:(cliF c).Code=0):Qta c∧cliF c=⟨0,0⟩:=by
 unfold cliF at h ⊢
 by_cases h0:(vsa c.Name c.Mail).Code=0
 ·rw [if_neg (by simp [h0])] at h ⊢
  by_cases hv:kqb c
  ·rw [if_pos hv]
   obtain ⟨hn,hm⟩:=ZSa h0
   exact ⟨⟨⟨⟨hn,hm⟩,hv.len,hv.e0,hv.e1,hv.rng⟩,hv.opn,hv.buf,hs⟩,rfl⟩
  ·rw [if_neg hv] at h;cases h
 ·rw [if_pos h0] at h;exact absurd h h0
theorem kub {c:zja} (o:Qta c):cliF c=⟨0,0⟩:=by
 unfold cliF
 have h0:(vsa c.Name c.Mail).Code=0:=by unfold vsa;rw [o.inv.good.name];exact o.inv.good.mail
 rw [if_neg (by simp [h0]),if_pos ⟨o.inv.len,o.inv.rng,o.inv.e0,o.inv.e1,o.buf,o.opn⟩]
theorem kvb {c:zja} (o:Qta c) {d:List UInt8} (h:c.Buffer.length+d.length≤40000):(zCa (fl [] (c.Buffer++d)).1++(fl [] (c.Buffer++d)).2)=c.Buffer++d∧(zCa (fl [] (c.Buffer++d)).1++(fl [] (c.Buffer++d)).2).length≤40000∧(fl [] (c.Buffer++d)).1.length≤20000:=by
 have hj:=VFa (c.Buffer++d)
 have hl:(zCa (fl [] (c.Buffer++d)).1++(fl [] (c.Buffer++d)).2).length≤40000:=by rw [hj];simp;omega
 refine ⟨hj,hl, ?_⟩
 have:=K6a (fl [] (c.Buffer++d)).1
 simp only [List.length_append] at hl
 omega
theorem VJa (c:zja) (d:List UInt8) (hs:yoa c) (hd:d.length≤2097152):qDa c d=some (WDa c d):=by
 have hb:=hs.buf
 unfold qDa WDa
 rw [Y3a c hs]
 simp only [Option.bind_some,z5a,zza,zPa]
 by_cases h0:(cliF c).Code=0
 ·rw [show ((cliF c).Code !=0)=false by simp [h0],if_neg (by simp [h0])]
  obtain ⟨o,_⟩:=ktb hs h0
  simp only [cond_false]
  rw [QKa _ _ (by omega)]
  by_cases h4:40000 < c.Buffer.length+d.length
  ·rw [if_pos h4,decide_eq_true (show (40000:Int) < ((c.Buffer.length+d.length:Nat):Int) by omega)]
   rfl
  ·rw [if_neg h4,decide_eq_false (show ¬(40000:Int) < ((c.Buffer.length+d.length:Nat):Int) by omega)]
   simp only [cond_false]
   rw [K9a _ hs.env hs.msg]
   simp only [Option.bind_some]
   rw [show kfa c.Results=some c.Results from wpa _ (by have:=hs.res;omega),ksb _ _ (by omega)]
   simp only [Option.bind_some]
   rw [QXa o.inv.good.mail hs.msg]
   simp only [Option.bind_some]
   obtain ⟨hj,hl,hc⟩:=kvb o (d:=d) (by omega)
   have hS:(zda.mk (zja.mk c.Name c.Mail c.Pipelined (c.Buffer++d) c.Expected c.Whole c.Done c.Results) (zoa c.Mail.Message) (rawP c.Mail.Message) ([]:List UInt8))=ses (tb ⟨c, []⟩ (zCa (fl [] (c.Buffer++d)).1++(fl [] (c.Buffer++d)).2)) (zoa c.Mail.Message) (rawP c.Mail.Message):=by rw [hj];rfl
   rw [hS]
   cases hdn:c.Done with
   | true=>
    rw [WAa _ hdn]
    simp only [Option.bind_some]
    unfold kQa
    rw [if_pos hdn]
    refine yna (v:=ses (tb ⟨c, []⟩ []) (zoa c.Mail.Message) (rawP c.Mail.Message)) (yna (wpa (zCa (fl [] (c.Buffer++d)).1++(fl [] (c.Buffer++d)).2) (by omega)) ?_) rfl
    show (bif c.Done then _ else _)=_
    rw [hdn]
    rfl
   | false=>
    obtain ⟨B,h1,h2,h3⟩:=WBa (fl [] (c.Buffer++d)).2 (fl_tail _) c.Mail _ (fl [] (c.Buffer++d)).1 ⟨c, []⟩ (Nat.le_refl _) o.inv (o.opn hdn) hdn rfl (by show 0+_≤_;omega) hl (Wwa _)
    rw [h1]
    simp only [Option.bind_some]
    unfold kQa endB
    rw [if_neg (by rw [hdn];decide)]
    refine yna (v:=ses (tb (runP ⟨c, []⟩ [] (fl [] (c.Buffer++d)).1).1 (if (runP ⟨c, []⟩ [] (fl [] (c.Buffer++d)).1).1.C.Done=true then [] else zCa (runP ⟨c, []⟩ [] (fl [] (c.Buffer++d)).1).2++(fl [] (c.Buffer++d)).2)) (zoa c.Mail.Message) (rawP c.Mail.Message)) (yna (wpa B (by omega)) ?_) rfl
    show (bif (runP ⟨c, []⟩ [] (fl [] (c.Buffer++d)).1).1.C.Done then _ else _)=_
    cases hd2:(runP ⟨c, []⟩ [] (fl [] (c.Buffer++d)).1).1.C.Done with
    | true=> rw [if_pos rfl];rfl
    | false=> rw [if_neg (by decide),←h2 hd2];rfl
 ·rw [show ((cliF c).Code !=0)=true by simpa using h0,if_pos h0]
  rfl
def VKa (c:zja):zja:=(tb (VIa ⟨c, []⟩) []).C
noncomputable def Y4a (c:zja):zja × zsa:=if (cliF c).Code≠0 then (noC,cliF c) else (VKa c,⟨0,0⟩)
theorem close_eq (c:zja) (hs:yoa c):vTa c=some (Y4a c):=by
 unfold vTa Y4a
 rw [Y3a c hs]
 simp only [Option.bind_some,z5a,zza,zPa]
 by_cases h0:(cliF c).Code=0
 ·rw [show ((cliF c).Code !=0)=false by simp [h0],if_neg (by simp [h0])]
  simp only [cond_false]
  rw [K9a _ hs.env hs.msg]
  simp only [Option.bind_some]
  rw [show kfa c.Results=some c.Results from wpa _ (by have:=hs.res;omega)]
  simp only [Option.bind_some]
  exact yna (kpb (tb ⟨c, []⟩ []) [] false (by exact hs.res)) rfl
 ·rw [show ((cliF c).Code !=0)=true by simpa using h0,if_pos h0]
  rfl
def Y5a (n:Str) (m:kla) (p:Bool):zja:=⟨n,m,p, [],0,false,false,List.replicate m.Envelope.To.length 0⟩
def Y6a (n:Str) (m:kla) (p:Bool):zja × zsa:=if (vsa n m).Code≠0 then (noC,vsa n m) else (Y5a n m p,⟨0,0⟩)
theorem zmk_eq {α:Type} {lim n:Nat} (z:α) (h:n≤lim):zmk lim (n:Int) z=some (List.replicate n z):=by
 unfold zmk
 rw [if_pos (by omega)]
 simp
theorem Start_eq (n:Str) (m:kla) (p:Bool) (hn:n.length≤1048576) (h1:Zka m.Envelope) (h2:yZa m.Message):vSa n m p=some (Y6a n m p):=by
 unfold vSa Y6a
 rw [Y2a n m hn h1 h2]
 simp only [Option.bind_some,z5a,zza,zPa]
 by_cases h0:(vsa n m).Code=0
 ·rw [show ((vsa n m).Code !=0)=false by simp [h0],if_neg (by simp [h0])]
  simp only [cond_false]
  rw [K9a _ h1 h2]
  simp only [Option.bind_some]
  obtain ⟨_,_,h3,_⟩:=h1
  rw [zmk_eq _ (by omega)]
  rfl
 ·rw [show ((vsa n m).Code !=0)=true by simpa using h0,if_pos h0]
  rfl
end Go.Proofs.YtjnmamghadpedaaGreatDoor
namespace Go.Proofs.YtjnmamghadpedaaGreatDoor
open Go.RowKit
set_option maxHeartbeats 1000000
set_option maxRecDepth 20000
structure Ran (t:Talk) (ls:List Str) (p:Talk × List Str):Prop where
 inv:CInv p.1.C
 same:p.1.C.Name=t.C.Name∧p.1.C.Mail=t.C.Mail∧p.1.C.Pipelined=t.C.Pipelined
 stays:Qsa t.C.Results p.1.C.Results
 opn:p.1.C.Done=true∨(p.1.C.Done=false∧COpn p.1.C)
 tail:∃q,ls=q++p.2
theorem ran_mono {t u:Talk} {ls q:List Str} {p:Talk × List Str} (h:Wua t u) (r:Ran u q p) (hq:∃z,ls=z++q):Ran t ls p:=by
 obtain ⟨z,hz⟩:=hq
 obtain ⟨y,hy⟩:=r.tail
 exact ⟨r.inv,⟨r.same.1.trans h.same.1,r.same.2.1.trans h.same.2.1,r.same.2.2.trans h.same.2.2⟩,K4a h.stays r.stays,r.opn,z++y,by rw [hz,hy];simp⟩
theorem VLa:∀(ls acc:List Str) (t:Talk),CInv t.C→COpn t.C→t.C.Done=false→Ran t (acc++ls) (runP t acc ls)
 | [],acc,t,iv,op,hd=> ⟨iv,⟨rfl,rfl,rfl⟩,v9a _, .inr ⟨hd,op⟩, [],by simp [runP]⟩
 | x::r,acc,t,iv,op,hd=> by
  rw [runP]
  have hl:=JSa iv
  have hh:=K7a iv op hd (wla (acc++ [x])).1
  by_cases hb:badL acc x
  ·rw [if_pos hb]
   exact ⟨hl.inv,hl.same,hl.stays, .inl rfl,acc++x::r,by simp⟩
  rw [if_neg hb]
  by_cases hc:wxa (acc++ [x])=0
  ·rw [if_pos hc]
   by_cases hdn:(woa t (wla (acc++ [x])).1).C.Done=true
   ·rw [if_pos hdn]
    exact ⟨hh.inv,hh.same,hh.stays, .inl hdn,acc++x::r,by simp⟩
   ·rw [if_neg hdn]
    rcases hh.opn with h | ⟨hd2,op2⟩
    ·exact absurd h hdn
    exact ran_mono hh (VLa r [] _ hh.inv op2 hd2) ⟨acc++ [x],by simp⟩
  ·rw [if_neg hc]
   have:=VLa r (acc++ [x]) t iv op hd
   simpa using this
theorem Qaa {c:zja} (o:Qta c) {d:List UInt8} (h4:c.Buffer.length+d.length≤40000):
  Qta (kQa c d).C∧Qsa c.Results (kQa c d).C.Results∧(kQa c d).C.Buffer.length≤c.Buffer.length+d.length∧((kQa c d).C.Done=true→(kQa c d).C.Buffer= []):=by
 obtain ⟨hj,hl,hc⟩:=kvb o (d:=d) h4
 have small:∀u:zja,u.Name=c.Name→u.Mail=c.Mail→u.Results.length=u.Mail.Envelope.To.length→u.Buffer.length≤40000→yoa u:=by
  intro u h1 h2 h3 h5
  have:=(kua o.inv.good.mail).many
  exact ⟨by rw [h1];exact o.small.name,by rw [h2];exact o.small.env,by rw [h2];exact o.small.msg,by rw [h3,h2];omega,by omega⟩
 unfold kQa
 cases hdn:c.Done with
 | true=>
  rw [if_pos rfl]
  exact ⟨⟨inv_tb (t:=⟨c, []⟩) o.inv [],fun h=> (by rw [show (tb ⟨c, []⟩ []).C.Done=c.Done from rfl,hdn] at h;cases h),(by show 0≤40000;omega),small _ rfl rfl o.inv.len (by show 0≤40000;omega)⟩,v9a _,by show 0≤_;omega,fun _=> rfl⟩
 | false=>
  rw [if_neg (by decide)]
  have r:=VLa (fl [] (c.Buffer++d)).1 [] ⟨c, []⟩ o.inv (o.opn hdn) hdn
  generalize runP ⟨c, []⟩ [] (fl [] (c.Buffer++d)).1=p at r
  obtain ⟨q,hq⟩:=r.tail
  have hfl:(zCa (fl [] (c.Buffer++d)).1).length=(zCa q).length+(zCa p.2).length:=by
   rw [List.nil_append] at hq
   have:=congrArg (fun l=> (zCa l).length) hq
   simp only [Zra,List.length_append] at this
   exact this
  have hjl:=congrArg List.length hj
  simp only [List.length_append] at hjl hl
  have hB:(endB p (fl [] (c.Buffer++d)).2).C.Buffer.length≤c.Buffer.length+d.length:=by
   show (if p.1.C.Done=true then [] else zCa p.2++(fl [] (c.Buffer++d)).2).length≤_
   split
   ·show 0≤_;omega
   ·simp only [List.length_append];omega
  refine ⟨⟨inv_tb r.inv _,fun h=> ?_,by omega,small _ r.same.1 r.same.2.1 r.inv.len (by omega)⟩,r.stays,hB,fun h=> ?_⟩
  ·rcases r.opn with h2 | ⟨_,h2⟩
   ·rw [show (endB p (fl [] (c.Buffer++d)).2).C.Done=p.1.C.Done from rfl,h2] at h;cases h
   ·exact opn_tb h2 _
  ·show (if p.1.C.Done=true then [] else _)=_
   rw [if_pos (show p.1.C.Done=true from h)]
def pre (o:List UInt8) (t:Talk):Talk:=⟨t.C,o++t.Out⟩
theorem start_ok {n:Str} {m:kla} {p:Bool} (h:(vsa n m).Code=0) (hn:n.length≤1048576) (h1:Zka m.Envelope) (h2:yZa m.Message):Qta (Y5a n m p):=by
 obtain ⟨a,b⟩:=ZSa h
 have hm:=(kua b).many
 refine ⟨⟨⟨a,b⟩,by show (List.replicate _ _).length=_;simp [Y5a],Int.le_refl 0,by show (0:Int)≤(m.Envelope.To.length:Int)+4;omega,fun r hr=> ?_⟩,fun _=> ⟨?_, ?_,fun i x hx _=> ?_⟩,by show 0≤40000;omega,⟨hn,h1,h2,by show (List.replicate _ _).length≤_;simp;omega,by show 0≤_;omega⟩⟩
 ·rw [(List.mem_replicate.1 hr).2];decide
 ·show false=(decide ((0:Int)=(m.Envelope.To.length:Int)+4) || (rawP m.Message && p && decide ((2:Int)≤0)))
  rw [decide_eq_false (by omega),decide_eq_false (show ¬(2:Int)≤0 by decide)]
  simp
 ·rintro ⟨_,h⟩
  have h' :(0:Int)=(m.Envelope.To.length:Int)+3:=h
  omega
 ·exact (List.mem_replicate.1 (List.mem_of_getElem? hx)).2
def sM:kla:=⟨⟨[115,64,120], [⟨[97,64,121],1⟩], [55]⟩,⟨[], []⟩⟩
theorem kwb:Zha [[97,64,121]]=some sM:=by
 unfold Zha
 rw [z9a (show yla [[97,64,121]] (0, [])=some (.cont (1, [⟨[97,64,121],1⟩])) from rfl)]
 rw [zOa (show yla [[97,64,121]] (1, [⟨[97,64,121],1⟩])=some (.out [⟨[97,64,121],1⟩]) from rfl)]
 rfl
theorem Ksa:Zka sM.Envelope∧yZa sM.Message:=
 ⟨⟨by decide,by decide,by decide,fun a ha=> by
  have:∀a∈sM.Envelope.To,a.Address.length≤1048576:=by decide
  exact this a ha⟩,⟨by decide,fun f hf=> by cases hf⟩,by decide⟩
def sC:zja:=Y5a [99] sM false
def d1:List UInt8:= [50,50,48,32,109,120,13,10]
def d2:List UInt8:= [50,53,48,45,109,120,13,10,50,53,48,32,111,107,13,10]
theorem kxb:(vsa [99] sM).Code=0:=by kernel_rfl
theorem sC_ok:Qta sC:=start_ok kxb (by decide) Ksa.1 Ksa.2
def sC1:zja:=⟨[99],sM,false, [],1,false,false, [0]⟩
def sC2:zja:=⟨[99],sM,false, [],2,false,false, [0]⟩
theorem s_one:kQa sC d1=⟨sC1, [104,101,108,108,111,32,99,13,10]⟩:=by kernel_rfl
end Go.Proofs.YtjnmamghadpedaaGreatDoor
