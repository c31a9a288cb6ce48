/- Part 3 of the proof of the law ServerTakesWhatIsSent: what it needs. -/
import Derived.Test.YtmmjihadplknjaaGreatDoorKServerTakesWhatIsSent2
import Derived.Shelf.Strings.SlTrimAscii
import Derived.Laws.RangeAny
import Derived.Lib.ItoaMem
import Derived.Lib.Atoi
import Derived.Lib.SplitLaws
set_option linter.unusedVariables false
set_option linter.unusedSimpArgs false
set_option maxRecDepth 100000
set_option maxHeartbeats 40000000
namespace Go.Proofs.YtmmjihadplknjaaGreatDoor
open Go.RowKit
noncomputable def jxa(a0:zma):Option zva:=
 (R_In a0.Verb 1 8).bind fun v1=>(bif (!v1) then (R_At 4 ((-2))).bind fun v4=>some v4 else ((bif (a0.Verb !=1) then (bif (a0.Name !=([]:Str)) then some true else (bif (a0.Verb !=2) then (bif (a0.Verb !=3) then (bif (a0.Address !=([]:Str)) then some true else (bif (a0.Verb !=5) then (bif (a0.Size !=0) then some true else (bif (a0.Notify !=0) then some true else some a0.Last)) else (bif (a0.Notify !=0) then some true else some false))) else (bif (a0.Verb !=5) then (bif (a0.Size !=0) then some true else some a0.Last) else some false)) else (bif (a0.Verb !=3) then (bif (a0.Notify !=0) then some true else (bif (a0.Verb !=5) then some a0.Last else some false)) else (bif (a0.Verb !=5) then some a0.Last else some false)))) else (bif (a0.Verb !=2) then (bif (a0.Verb !=3) then (bif (a0.Address !=([]:Str)) then some true else (bif (a0.Verb !=5) then (bif (a0.Size !=0) then some true else (bif (a0.Notify !=0) then some true else some a0.Last)) else (bif (a0.Notify !=0) then some true else some false))) else (bif (a0.Verb !=5) then (bif (a0.Size !=0) then some true else some a0.Last) else some false)) else (bif (a0.Verb !=3) then (bif (a0.Notify !=0) then some true else (bif (a0.Verb !=5) then some a0.Last else some false)) else (bif (a0.Verb !=5) then some a0.Last else some false)))):Option Bool).bind fun (j6:Bool)=>(bif j6 then (R_At 5 ((-3))).bind fun v36=>some v36 else ((bif (a0.Verb==1) then (Zia a0.Name).bind fun v40=>some ((!v40)) else some false):Option Bool).bind fun (j38:Bool)=>(bif j38 then (R_At 10 ((-4))).bind fun v43=>some v43 else ((bif (a0.Verb==2) then (bif (a0.Address !=([]:Str)) then (qJa a0.Address).bind fun v48=>some ((!v48)) else (bif (a0.Verb==3) then (qJa a0.Address).bind fun v51=>some ((!v51)) else some false)) else (bif (a0.Verb==3) then (qJa a0.Address).bind fun v54=>some ((!v54)) else some false)):Option Bool).bind fun (j45:Bool)=>(bif j45 then (R_At 10 ((-5))).bind fun v57=>some v57 else ((bif (a0.Verb==2) then (R_In a0.Size 0 1000000).bind fun v61=>some ((!v61)) else (bif (a0.Verb==5) then (R_In a0.Size 0 1000000).bind fun v64=>some ((!v64)) else some false)):Option Bool).bind fun (j59:Bool)=>(bif j59 then (R_At 3 ((-6))).bind fun v67=>some v67 else ((bif (a0.Verb==3) then (R_In a0.Notify 0 7).bind fun v71=>some ((!v71)) else some false):Option Bool).bind fun (j69:Bool)=>(bif j69 then (R_At 3 ((-7))).bind fun v74=>some v74 else some ((zva.mk 0 0))))))))
def jmb(a0:Int):Option Str:=
 (idx (([([104,101,108,108,111]:Str),([109,97,105,108]:Str),([114,99,112,116]:Str),([100,97,116,97]:Str),([99,104,117,110,107]:Str),([114,101,115,101,116]:Str),([110,111,111,112]:Str),([113,117,105,116]:Str)]:List Str)) ((w64 (a0 - 1)))).bind fun v1=>some v1
def wca(a0:Int):Option Str:=
 (idx (([([110,101,118,101,114]:Str),([102,97,105,108,117,114,101]:Str),([100,101,108,97,121]:Str),([102,97,105,108,117,114,101,44,100,101,108,97,121]:Str),([115,117,99,99,101,115,115]:Str),([102,97,105,108,117,114,101,44,115,117,99,99,101,115,115]:Str),([100,101,108,97,121,44,115,117,99,99,101,115,115]:Str),([102,97,105,108,117,114,101,44,100,101,108,97,121,44,115,117,99,99,101,115,115]:Str)]:List Str)) a0).bind fun v1=>some v1
def vza(a0:Str)(s1:Str × Int × (List Str)):Option (Step (Str × Int × (List Str)) (List Str)):=
 (bif decide (s1.2.1<=(a0.length:Int)) then (((bif decide (s1.2.1 < (a0.length:Int)) then (idx a0 s1.2.1).bind fun v8=>some (((v8.toNat:Int) !=32)) else some false):Option Bool).bind fun (j6:Bool)=>(bif j6 then (cut a0 s1.2.1 ((w64 (s1.2.1+1)))).bind fun v11=>(cat s1.1 v11).bind fun v13=>some ((v13,s1.2.2)) else ((bif (s1.1 !=([]:Str)) then (app 8796093022208 s1.2.2 (([s1.1]:List Str))).bind fun v17=>some v17 else some s1.2.2):Option (List Str)).bind fun (j15:List Str)=>some ((([]:Str),j15))):Option (Str × (List Str))).bind fun (j5:Str × (List Str))=>some (.cont (j5.1,(w64 (s1.2.1+1)),j5.2)) else some (.out s1.2.2))
noncomputable def q0b(a0:Str):Option (List Str):=
 (iter (vza a0) ((([]:Str),0,([]:List Str)))).bind fun b2=>some b2
noncomputable def VDa(a0:Str)(a1:Str):Option (Str × Bool):=
 (W6a a0).bind fun v1=>((bif decide ((v1.length:Int) < (a1.length:Int)) then some true else (cut v1 0 ((a1.length:Int))).bind fun v5=>some ((v5 !=a1))):Option Bool).bind fun (j3:Bool)=>(bif j3 then some ((([]:Str),false)) else (cut v1 ((a1.length:Int)) ((v1.length:Int))).bind fun v8=>some ((v8,true)))
noncomputable def qXa(v4:List Str)(s6:Int × Int):Option (Step (Int × Int) Int):=
 ((bif decide (s6.1<=8) then some (decide (0 < (v4.length:Int))) else some false):Option Bool).bind fun (j9:Bool)=>(bif j9 then ((idx v4 0).bind fun v13=>(W6a v13).bind fun v15=>(jmb s6.1).bind fun v17=>(bif (v15==v17) then some s6.1 else some s6.2):Option Int).bind fun (j12:Int)=>some (.cont ((w64 (s6.1+1)),j12)) else some (.out s6.2))
noncomputable def qYa(b7:Int)(j34:Str × Str × Int)(j37:Int × Int × Bool):Option (zma × zva):=
 (jxa ((zma.mk b7 j34.1 j34.2.1 j37.1 j37.2.1 j37.2.2))).bind fun v38=>(bif (v38.Code !=0) then some (((zma.mk 0 (([]:Str)) (([]:Str)) 0 0 false),v38)) else some (((zma.mk b7 j34.1 j34.2.1 j37.1 j37.2.1 j37.2.2),v38)))
def qZa(v54:Str × Bool)(s56:Bool × Int × Int):Option (Step (Bool × Int × Int) (Bool × Int)):=
 ((bif decide (s56.2.1 < 8) then some v54.2 else some false):Option Bool).bind fun (j59:Bool)=>(bif j59 then ((wca s56.2.1).bind fun v63=>(bif (v63==v54.1) then some ((true,s56.2.1)) else some ((s56.1,s56.2.2))):Option (Bool × Int)).bind fun (j62:Bool × Int)=>some (.cont (j62.1,(w64 (s56.2.1+1)),j62.2)) else some (.out ((s56.1,s56.2.2))))
noncomputable def kIa(b7:Int)(v23:zva)(v25:List Str)(j34:Str × Str × Int):Option (zma × zva):=
 ((bif (b7==3) then some 1 else some 0):Option Int).bind fun (j35:Int)=>(bif ((v25.length:Int)==2) then ((bif (b7==2) then (idx v25 1).bind fun v44=>(VDa v44 (([115,105,122,101,61]:Str))).bind fun v46=>(WJa v46.1).bind fun v48=>(bif v46.2 then some ((decide (0<=v48),v48,j35,false)) else some ((false,v48,j35,false))) else (bif (b7==3) then (idx v25 1).bind fun v52=>(VDa v52 (([110,111,116,105,102,121,61]:Str))).bind fun v54=>(iter (qZa v54) ((false,0,j35))).bind fun b57=>some ((b57.1,j34.2.2,b57.2,false)) else (bif (b7==5) then (idx v25 1).bind fun v67=>(W6a v67).bind fun v69=>some (((v69==([108,97,115,116]:Str)),j34.2.2,j35,true)) else some ((false,j34.2.2,j35,false))))):Option (Bool × Int × Int × Bool)).bind fun (j42:Bool × Int × Int × Bool)=>(bif (!j42.1) then some (((zma.mk 0 (([]:Str)) (([]:Str)) 0 0 false),v23)) else (qYa b7 j34 (j42.2.1,j42.2.2.1,j42.2.2.2))) else (qYa b7 j34 (j34.2.2,j35,false)))
noncomputable def Qra(a0:Str):Option (zma × zva):=
 (bif decide (4000 < (a0.length:Int)) then (R_At 1 ((-1))).bind fun v2=>some (((zma.mk 0 (([]:Str)) (([]:Str)) 0 0 false),v2)) else (q0b a0).bind fun v4=>(iter (qXa v4) ((1,0))).bind fun b7=>(bif (b7==0) then (R_At 18 ((-2))).bind fun v21=>some (((zma.mk 0 (([]:Str)) (([]:Str)) 0 0 false),v21)) else (R_At 11 ((-3))).bind fun v23=>(cut v4 1 ((v4.length:Int))).bind fun v25=>(idx (([1,1,1,0,1,0,0,0]:List Int)) ((w64 (b7 - 1)))).bind fun v27=>(idx (([1,2,2,0,2,0,0,0]:List Int)) ((w64 (b7 - 1)))).bind fun v29=>(R_In ((v25.length:Int)) v27 v29).bind fun v31=>(bif (!v31) then some (((zma.mk 0 (([]:Str)) (([]:Str)) 0 0 false),v23)) else (bif (b7==1) then (idx v25 0).bind fun v73=>(kIa b7 v23 v25 (v73,([]:Str),0)) else ((bif (b7==2) then some true else some ((b7==3))):Option Bool).bind fun (j75:Bool)=>(bif j75 then (idx v25 0).bind fun v78=>((bif decide ((v78.length:Int) < 2) then some true else (idx v25 0).bind fun v82=>(idx v82 0).bind fun v84=>(bif ((v84.toNat:Int) !=60) then some true else (idx v25 0).bind fun v87=>(idx v87 ((w64 ((v78.length:Int) - 1)))).bind fun v89=>some (((v89.toNat:Int) !=62)))):Option Bool).bind fun (j80:Bool)=>(bif j80 then some (((zma.mk 0 (([]:Str)) (([]:Str)) 0 0 false),v23)) else (idx v25 0).bind fun v92=>(cut v92 1 ((w64 ((v78.length:Int) - 1)))).bind fun v94=>(kIa b7 v23 v25 (([]:Str),v94,0))) else (bif (b7==5) then (idx v25 0).bind fun v97=>(WJa v97).bind fun v99=>(bif decide (v99 < 0) then some (((zma.mk 0 (([]:Str)) (([]:Str)) 0 0 false),v23)) else (kIa b7 v23 v25 (([]:Str),([]:Str),v99))) else (kIa b7 v23 v25 (([]:Str),([]:Str),0))))))))
noncomputable def ktb(a0:zsa):Option Bool:=
 (qha a0).bind fun v1=>((idx v1 ((w64 ((v1.length:Int) - 2)))).bind fun v4=>(bif ((v4.toNat:Int) !=13) then some true else (idx v1 ((w64 ((v1.length:Int) - 1)))).bind fun v7=>some (((v7.toNat:Int) !=10))):Option Bool).bind fun (j3:Bool)=>some j3
def kka(c:UInt8):UInt8:=if c=0∨c=13 then 32 else c
def z0a(s:Str):Option Str:=if s.length<=4611686018427387904 then some (s.map kka) else none
def vZb(t:Str):Bool:=t.all fun b=>decide (b.toNat < 128)
def yfa(s t:Str):Option Str:=if s.length<=9223372036854775807/\t.length < 4294967281/\vZb t=true then some (Lib.trimS s t) else none
def qBa(s t:Str):Option Str:=if s.length<=9223372036854775807/\t.length < 4294967281/\vZb t=true then some (Lib.trimRightS s t) else none
def qCa(l:List UInt8)(c:UInt8):Option Int:=some (Lib.indexByte l c)
def kQa(a0:List UInt8)(a1:List UInt8):Option (List UInt8):=
 (kJa a0 a1).bind fun v1=>(bif v1 then (cut a0 0 ((w64 ((a0.length:Int) - (a1.length:Int))))).bind fun v4=>some v4 else some a0)
def yWa(a0:List UInt8):Option (Str × Int):=
 (qCa a0 ((10:UInt8))).bind fun v1=>(bif decide (v1 < 0) then some ((a0,(a0.length:Int))) else (cut a0 0 v1).bind fun v4=>(kQa v4 (([(13:UInt8)]:List UInt8))).bind fun v6=>some ((v6,(w64 (v1+1)))))
noncomputable def wta(a0:Str):Option (zha × Bool):=
 (qKa a0 (([58]:Str))).bind fun v1=>(qBa v1.1 (([32,9]:Str))).bind fun v3=>((bif v1.2.2 then (wNa v3).bind fun v7=>some v7 else some false):Option Bool).bind fun (j5:Bool)=>some (((zha.mk v3 v1.2.1),j5))
noncomputable def vQa(a0:List UInt8)(s4:Int × (List zha)):Option (Step (Int × (List zha)) (Int × (List zha))):=
 (bif decide (s4.1 < (a0.length:Int)) then (cut a0 s4.1 ((a0.length:Int))).bind fun v8=>(yWa v8).bind fun v10=>(bif (v10.1==([]:Str)) then some (.out (((w64 (s4.1+v10.2)),s4.2))) else ((idx v10.1 0).bind fun v14=>(qLa v14).bind fun v16=>(bif v16 then some (decide (0 < (s4.2.length:Int))) else some false):Option Bool).bind fun (j13:Bool)=>(bif j13 then (idx s4.2 ((w64 ((s4.2.length:Int) - 1)))).bind fun v20=>(idx s4.2 ((w64 ((s4.2.length:Int) - 1)))).bind fun v22=>(cat v22.Value v10.1).bind fun v24=>(idx s4.2 ((w64 ((s4.2.length:Int) - 1)))).bind fun v26=>(idx s4.2 ((w64 ((s4.2.length:Int) - 1)))).bind fun v28=>some (.cont ((w64 (s4.1+v10.2)),(List.set s4.2 (Int.toNat ((w64 ((s4.2.length:Int) - 1)))) ((zha.mk v28.Name v24))))) else (wta v10.1).bind fun v30=>(bif (!v30.2) then some (.out ((s4.1,s4.2))) else (app 4398046511104 s4.2 (([v30.1]:List zha))).bind fun v33=>some (.cont ((w64 (s4.1+v10.2)),v33))))) else some (.out ((s4.1,s4.2))))
def vRa(b5:Int × (List zha))(s38:Int × (List zha)):Option (Step (Int × (List zha)) ((List zha) ⊕ ((List zha) × Int × zva))):=
 (bif decide (s38.1 < (b5.2.length:Int)) then (idx s38.2 s38.1).bind fun v44=>(idx s38.2 s38.1).bind fun v46=>(z0a v46.Value).bind fun v48=>(yfa v48 (([32,9]:Str))).bind fun v50=>(bif decide (4000 < (v50.length:Int)) then (zxa 1 s38.1).bind fun v53=>some (.out (.inr (([],0,v53)))) else (idx s38.2 s38.1).bind fun v55=>(idx s38.2 s38.1).bind fun v57=>some (.cont ((w64 (s38.1+1)),(List.set s38.2 (Int.toNat s38.1) ((zha.mk v57.Name v50)))))) else some (.out (.inl s38.2)))
noncomputable def Zma(a0:List UInt8):Option ((List zha) × Int × zva):=
 (bif decide (12000 < (a0.length:Int)) then (zxa 1 ((-1))).bind fun v2=>some (([],0,v2)) else (iter (vQa a0) ((0,([]:List zha)))).bind fun b5=>(bif decide (60 < (b5.2.length:Int)) then (zxa 2 ((-2))).bind fun v36=>some (([],0,v36)) else (iter (vRa b5) ((0,b5.2))).bind (Sum.elim (fun b39=>(kCa).bind fun v59=>some ((b39,b5.1,v59))) (fun b40=>some ((b40.1,b40.2.1,b40.2.2))))))
def qTa(a0:List UInt8)(s1:Int × (List UInt8)):Option (Step (Int × (List UInt8)) (List UInt8)):=
 (bif decide (s1.1 < (a0.length:Int)) then (((idx a0 s1.1).bind fun v7=>(bif ((v7.toNat:Int)==13) then (bif decide ((w64 (s1.1+1)) < (a0.length:Int)) then (idx a0 ((w64 (s1.1+1)))).bind fun v11=>some (((v11.toNat:Int)==10)) else some false) else some false):Option Bool).bind fun (j6:Bool)=>(bif j6 then (app 140737488355328 s1.2 (([(13:UInt8),(10:UInt8)]:List UInt8))).bind fun v14=>some (((w64 (s1.1+1)),v14)) else ((idx a0 s1.1).bind fun v17=>(bif ((v17.toNat:Int)==13) then some true else (idx a0 s1.1).bind fun v20=>some (((v20.toNat:Int)==10))):Option Bool).bind fun (j16:Bool)=>(bif j16 then (app 140737488355328 s1.2 (([(13:UInt8),(10:UInt8)]:List UInt8))).bind fun v23=>some ((s1.1,v23)) else (idx a0 s1.1).bind fun v25=>(app 140737488355328 s1.2 (([v25]:List UInt8))).bind fun v27=>some ((s1.1,v27)))):Option (Int × (List UInt8))).bind fun (j5:Int × (List UInt8))=>some (.cont ((w64 (j5.1+1)),j5.2)) else some (.out s1.2))
noncomputable def wua(a0:List UInt8):Option (List UInt8):=
 (iter (qTa a0) ((0,([]:List UInt8)))).bind fun b2=>some b2
noncomputable def yga(a0:List UInt8):Option (zsa × zva):=
 (Zma a0).bind fun v1=>(z8a v1.2.2).bind fun v3=>(bif v3 then some (((zsa.mk ([]) ([])),v1.2.2)) else (cut a0 v1.2.1 ((a0.length:Int))).bind fun v6=>(wua v6).bind fun v8=>(qRa ((zsa.mk v1.1 v8))).bind fun v10=>(z8a v10).bind fun v12=>(bif v12 then some (((zsa.mk ([]) ([])),v10)) else (kCa).bind fun v15=>some (((zsa.mk v1.1 v8),v15))))
def Zna(a0:List UInt8)(s1:Int):Option (Step Int (Unit ⊕ (Str × Int))):=
 (bif decide (s1 < (a0.length:Int)) then (idx a0 s1).bind fun v7=>(bif ((v7.toNat:Int) !=10) then some (.cont (w64 (s1+1))) else ((bif decide (0 < s1) then (idx a0 ((w64 (s1 - 1)))).bind fun v12=>some (((v12.toNat:Int)==13)) else some false):Option Bool).bind fun (j10:Bool)=>(bif j10 then (cut a0 0 ((w64 (s1 - 1)))).bind fun v15=>some (.out (.inr ((v15,(w64 (s1+1)))))) else (cut a0 0 s1).bind fun v17=>some (.out (.inr ((v17,(w64 (s1+1)))))))) else some (.out (.inl (()))))
noncomputable def VEa(a0:List UInt8):Option (Str × Int):=
 (iter (Zna a0) 0).bind (Sum.elim (fun b2=>some ((a0,(a0.length:Int)))) (fun b3=>some ((b3.1,b3.2))))
def yha(a0:Str)(s1:Int × (List UInt8)):Option (Step (Int × (List UInt8)) (List UInt8)):=
 (bif decide (s1.1 < (a0.length:Int)) then (idx a0 s1.1).bind fun v5=>(((bif ((v5.toNat:Int)==0) then some true else some (((v5.toNat:Int)==13))):Option Bool).bind fun (j8:Bool)=>(bif j8 then some ((32:UInt8)) else some v5):Option UInt8).bind fun (j7:UInt8)=>(app 140737488355328 s1.2 (([j7]:List UInt8))).bind fun v11=>some (.cont ((w64 (s1.1+1)),v11)) else some (.out s1.2))
def jga(s13:List UInt8):Option (Step (List UInt8) (List UInt8)):=
 ((bif decide (0 < (s13.length:Int)) then (idx s13 0).bind fun v18=>(q1a v18).bind fun v20=>some v20 else some false):Option Bool).bind fun (j16:Bool)=>(bif j16 then (cut s13 1 ((s13.length:Int))).bind fun v23=>some (.cont v23) else some (.out s13))
def jha(s26:List UInt8):Option (Step (List UInt8) (List UInt8)):=
 ((bif decide (0 < (s26.length:Int)) then (idx s26 ((w64 ((s26.length:Int) - 1)))).bind fun v31=>(q1a v31).bind fun v33=>some v33 else some false):Option Bool).bind fun (j29:Bool)=>(bif j29 then (cut s26 0 ((w64 ((s26.length:Int) - 1)))).bind fun v36=>some (.cont v36) else some (.out s26))
noncomputable def W7a(a0:Str):Option Str:=
 (iter (yha a0) ((0,([]:List UInt8)))).bind fun b2=>(iter (jga) b2).bind fun b14=>(iter (jha) b14).bind fun b27=>some b27
def jYa(a0:Str)(s10:Int):Option (Step Int Int):=
 ((bif decide (0 < s10) then (idx a0 ((w64 (s10 - 1)))).bind fun v15=>(q1a v15).bind fun v17=>some v17 else some false):Option Bool).bind fun (j13:Bool)=>(bif j13 then some (.cont (w64 (s10 - 1))) else some (.out s10))
noncomputable def VFa(a0:Str)(s1:Int):Option (Step Int (Unit ⊕ (Str × Str))):=
 (bif decide (s1 < (a0.length:Int)) then (idx a0 s1).bind fun v7=>(bif ((v7.toNat:Int) !=58) then some (.cont (w64 (s1+1))) else (iter (jYa a0) s1).bind fun b11=>(cut a0 0 b11).bind fun v20=>(wMa ((zha.mk v20 (([]:Str))))).bind fun v22=>(bif (v22==0) then (cut a0 0 b11).bind fun v25=>(cut a0 ((w64 (s1+1))) ((a0.length:Int))).bind fun v27=>some (.out (.inr ((v25,v27)))) else some (.out (.inr ((([]:Str),([]:Str))))))) else some (.out (.inl (()))))
noncomputable def q1b(a0:Str):Option (Str × Str):=
 (iter (VFa a0) 0).bind (Sum.elim (fun b2=>some ((([]:Str),([]:Str)))) (fun b3=>some ((b3.1,b3.2))))
noncomputable def w1a(a0:List UInt8)(s1:Int × (List zha)):Option (Step (Int × (List zha)) (Int × (List zha))):=
 (bif decide (s1.1 < (a0.length:Int)) then (cut a0 s1.1 ((a0.length:Int))).bind fun v5=>(VEa v5).bind fun v7=>(bif (v7.1==([]:Str)) then some (.out (((w64 (s1.1+v7.2)),s1.2))) else ((idx v7.1 0).bind fun v11=>(q1a v11).bind fun v13=>(bif v13 then some (((w64 ((s1.2.length:Int) - 1)),decide (0<=(w64 ((s1.2.length:Int) - 1))))) else some (((w64 ((s1.2.length:Int) - 1)),false))):Option (Int × Bool)).bind fun (j10:Int × Bool)=>(bif j10.2 then (idx s1.2 j10.1).bind fun v17=>(idx s1.2 j10.1).bind fun v19=>(cat v19.Value v7.1).bind fun v21=>(idx s1.2 j10.1).bind fun v23=>(idx s1.2 j10.1).bind fun v25=>some (.cont ((w64 (s1.1+v7.2)),(List.set s1.2 (Int.toNat j10.1) ((zha.mk v25.Name v21))))) else (q1b v7.1).bind fun v27=>(bif (v27.1==([]:Str)) then some (.out ((s1.1,s1.2))) else (app 4398046511104 s1.2 (([(zha.mk v27.1 v27.2)]:List zha))).bind fun v30=>some (.cont ((w64 (s1.1+v7.2)),v30))))) else some (.out ((s1.1,s1.2))))
noncomputable def w2a(s33:Int × (List zha)):Option (Step (Int × (List zha)) (List zha)):=
 (bif decide (s33.1 < (s33.2.length:Int)) then (idx s33.2 s33.1).bind fun v37=>(idx s33.2 s33.1).bind fun v39=>(W7a v39.Value).bind fun v41=>(idx s33.2 s33.1).bind fun v43=>(idx s33.2 s33.1).bind fun v45=>some (.cont ((w64 (s33.1+1)),(List.set s33.2 (Int.toNat s33.1) ((zha.mk v45.Name v41))))) else some (.out s33.2))
def vSa(a0:List UInt8)(s47:Int × (List UInt8)):Option (Step (Int × (List UInt8)) (List UInt8)):=
 (bif decide (s47.1 < (a0.length:Int)) then (((idx a0 s47.1).bind fun v53=>(bif ((v53.toNat:Int)==13) then some true else (idx a0 s47.1).bind fun v56=>some (((v56.toNat:Int)==10))):Option Bool).bind fun (j52:Bool)=>(bif j52 then (app 140737488355328 s47.2 (([(13:UInt8),(10:UInt8)]:List UInt8))).bind fun v59=>(((idx a0 s47.1).bind fun v63=>(bif ((v63.toNat:Int)==13) then (bif decide ((w64 (s47.1+1)) < (a0.length:Int)) then (idx a0 ((w64 (s47.1+1)))).bind fun v67=>some (((v67.toNat:Int)==10)) else some false) else some false):Option Bool).bind fun (j62:Bool)=>(bif j62 then some ((w64 (s47.1+1))) else some s47.1):Option Int).bind fun (j61:Int)=>some ((j61,v59)) else (idx a0 s47.1).bind fun v70=>(app 140737488355328 s47.2 (([v70]:List UInt8))).bind fun v72=>some ((s47.1,v72))):Option (Int × (List UInt8))).bind fun (j51:Int × (List UInt8))=>some (.cont ((w64 (j51.1+1)),j51.2)) else some (.out s47.2))
noncomputable def Qsa(a0:List UInt8):Option (zsa × Bool):=
 (iter (w1a a0) ((0,([]:List zha)))).bind fun b2=>(bif decide (60 < (b2.2.length:Int)) then some (((zsa.mk ([]) ([])),false)) else (iter (w2a) ((0,b2.2))).bind fun b34=>(iter (vSa a0) ((b2.1,([]:List UInt8)))).bind fun b48=>(qia ((zsa.mk b34 b48))).bind fun v74=>(bif (v74.Code !=0) then some (((zsa.mk ([]) ([])),false)) else some (((zsa.mk b34 b48),true))))
noncomputable def k0a(a0:Str)(a1:Int)(a2:Int):Option zva:=
 ((yLa a0).bind fun v2=>(bif (!v2) then some true else some (decide (40 < (a0.length:Int)))):Option Bool).bind fun (j1:Bool)=>(bif j1 then (zxa 10 ((-20))).bind fun v6=>some v6 else ((bif decide (a1 < 1) then some true else some (decide (12000 < a1))):Option Bool).bind fun (j8:Bool)=>(bif j8 then (zxa 3 ((-21))).bind fun v11=>some v11 else ((bif decide (a2 < 1) then some true else some (decide (60 < a2))):Option Bool).bind fun (j13:Bool)=>(bif j13 then (zxa 3 ((-22))).bind fun v16=>some v16 else (kCa).bind fun v18=>some v18)))
noncomputable def wQa(a0:Str)(a1:Int)(a2:Int):Option (zja × zLa × zva):=
 (k0a a0 a1 a2).bind fun v1=>(z8a v1).bind fun v3=>(bif v3 then some (((zja.mk (([]:Str)) 0 0 0 false false (([]:Str)) ([]) ([]) ([]) 0 0 false 0 false false 0),(zLa.mk 0 ([])),v1)) else (kCa).bind fun v6=>some (((zja.mk a0 a1 a2 0 false false (([]:Str)) ([]) ([]) ([]) 0 0 false 0 false false 0),(zLa.mk 220 (([a0]:List Str))),v6)))
def kXa(a0:Int)(a1:Int)(a2:Int):Option Bool:=
 ((bif decide (a1<=a0) then some (decide (a0<=a2)) else some false):Option Bool).bind fun (j1:Bool)=>some j1
def vTa(a0:List UInt8)(a1:List UInt8):Option Bool:=
 (Zga a0 a1).bind fun v1=>some ((v1 !=(-1)))
def yia(a0:zja):Option Bool:=
 ((bif (a0.Left==0) then (bif (!a0.Last) then some ((!a0.Ignore)) else some false) else some false):Option Bool).bind fun (j1:Bool)=>(bif (a0.Phase==0) then ((bif decide ((a0.Buffer.length:Int) < 4002) then (vTa a0.Buffer (([(13:UInt8),(10:UInt8)]:List UInt8))).bind fun v7=>(bif (!v7) then (bif (a0.Dots==0) then some j1 else some false) else some false) else some false):Option Bool).bind fun (j5:Bool)=>some j5 else (bif (a0.Phase==1) then ((bif decide (0 < (a0.To.length:Int)) then (bif (!a0.Chunked) then (bif ((a0.Buffer.length:Int)==0) then (kXa a0.Dots 0 4).bind fun v16=>(bif v16 then some j1 else some false) else some false) else some false) else some false):Option Bool).bind fun (j12:Bool)=>some j12 else (bif (a0.Phase==2) then ((bif (a0.Ignore==((a0.To.length:Int)==0)) then (bif (a0.Ignore==(!a0.Chunked)) then (bif ((a0.Buffer.length:Int)==0) then (bif (a0.Dots==0) then (kXa a0.Left 1 1000000).bind fun v25=>some v25 else some false) else some false) else some false) else some false):Option Bool).bind fun (j20:Bool)=>some j20 else (bif (a0.Phase==3) then ((bif (!a0.Mailing) then (bif ((a0.Buffer.length:Int)==0) then (bif (a0.Dots==0) then some j1 else some false) else some false) else some false):Option Bool).bind fun (j28:Bool)=>some j28 else some false))))
noncomputable def wva(a0:zja):Option Bool:=
 ((bif (a0.From !=([]:Str)) then (kua a0.From).bind fun v3=>(bif (!v3) then some true else (bif decide (a0.Many < (a0.To.length:Int)) then some true else (kFa a0.To).bind fun v7=>(z8a v7).bind fun v9=>some v9)) else (bif decide (a0.Many < (a0.To.length:Int)) then some true else (kFa a0.To).bind fun v12=>(z8a v12).bind fun v14=>some v14)):Option Bool).bind fun (j1:Bool)=>(bif j1 then some false else ((bif (!a0.Greeted) then (bif a0.Mailing then some true else (bif (!a0.Mailing) then (bif (a0.From !=([]:Str)) then some true else (bif decide (0 < (a0.To.length:Int)) then some true else (bif a0.Chunked then some (((a0.To.length:Int)==0)) else some false))) else (bif a0.Chunked then some (((a0.To.length:Int)==0)) else some false))) else (bif (!a0.Mailing) then (bif (a0.From !=([]:Str)) then some true else (bif decide (0 < (a0.To.length:Int)) then some true else (bif a0.Chunked then some (((a0.To.length:Int)==0)) else some false))) else (bif a0.Chunked then some (((a0.To.length:Int)==0)) else some false))):Option Bool).bind fun (j17:Bool)=>(bif j17 then some false else ((bif decide (a0.Size < (a0.Data.length:Int)) then some true else (kXa a0.Lost 0 1099511627776).bind fun v33=>(bif (!v33) then some true else (kXa a0.Count 0 1000000).bind fun v36=>some ((!v36)))):Option Bool).bind fun (j31:Bool)=>(bif j31 then some false else ((bif decide (0 < (a0.Data.length:Int)) then (bif (!a0.Chunked) then some ((a0.Phase !=1)) else some false) else (bif decide (0 < a0.Lost) then (bif (!a0.Chunked) then some ((a0.Phase !=1)) else some false) else some false)):Option Bool).bind fun (j39:Bool)=>(bif j39 then some false else (yia a0).bind fun v45=>some v45))))
noncomputable def zta(a0:List zca):Option (List zca):=
 (nilE a0.isEmpty (some ([])) ((app 5864062014805 ([]:List zca) a0).bind fun v2=>some v2))
noncomputable def kza(a0:List UInt8):Option (List UInt8):=
 (nilE a0.isEmpty (some ([])) ((app 140737488355328 ([]:List UInt8) a0).bind fun v2=>some v2))
def qDa(a0:List UInt8)(a1:List UInt8):Option ((List UInt8) × Bool):=
 (kJa a0 a1).bind fun v1=>(bif (!v1) then some ((a0,false)) else (cut a0 0 ((w64 ((a0.length:Int) - (a1.length:Int))))).bind fun v4=>some ((v4,true)))
def zra(a0:zea)(a1:Int)(a2:List Str):Option zea:=
 (app 4398046511104 a0.replies (([(zLa.mk a1 a2)]:List zLa))).bind fun v1=>some ((zea.mk a0.Server v1 a0.mails))
def zZa(a0:zea):Option zea:=
 some ((zea.mk ((zja.mk a0.Server.Name a0.Server.Size a0.Server.Many a0.Server.Phase a0.Server.Greeted false (([]:Str)) ([]) a0.Server.Buffer (([]:List UInt8)) 0 a0.Server.Dots false a0.Server.Left a0.Server.Last a0.Server.Ignore a0.Server.Count)) a0.replies a0.mails))
def kSa(a0:zea):Option zea:=
 (zZa a0).bind fun v1=>some ((zea.mk ((zja.mk v1.Server.Name v1.Server.Size v1.Server.Many 3 v1.Server.Greeted v1.Server.Mailing v1.Server.From v1.Server.To (([]:List UInt8)) v1.Server.Data v1.Server.Lost v1.Server.Dots v1.Server.Chunked v1.Server.Left v1.Server.Last v1.Server.Ignore v1.Server.Count)) v1.replies v1.mails))
noncomputable def koa(a0:zea)(a1:zma):Option zea:=
 (zta a0.Server.To).bind fun v1=>(app 5864062014805 v1 (([(zca.mk a1.Address a1.Notify)]:List zca))).bind fun v3=>(vKa v3).bind fun v5=>((bif (!a0.Server.Mailing) then some true else some a0.Server.Chunked):Option Bool).bind fun (j7:Bool)=>(bif j7 then (zra a0 503 (([([111,114,100,101,114]:Str)]:List Str))).bind fun v10=>some v10 else (bif decide (a0.Server.Many < (v5.1.length:Int)) then (zra a0 452 (([([109,97,110,121]:Str)]:List Str))).bind fun v13=>some v13 else (zra ((zea.mk ((zja.mk a0.Server.Name a0.Server.Size a0.Server.Many a0.Server.Phase a0.Server.Greeted a0.Server.Mailing a0.Server.From v5.1 a0.Server.Buffer a0.Server.Data a0.Server.Lost a0.Server.Dots a0.Server.Chunked a0.Server.Left a0.Server.Last a0.Server.Ignore a0.Server.Count)) a0.replies a0.mails)) 250 (([([111,107]:Str)]:List Str))).bind fun v15=>some v15))
noncomputable def z5a(a0:zea):Option zea:=
 (yga a0.Server.Data).bind fun v1=>((bif decide (0 < a0.Server.Lost) then (zra a0 552 (([([108,97,114,103,101]:Str)]:List Str))).bind fun v5=>some v5 else ((z8a v1.2).bind fun v8=>(bif v8 then some true else some ((a0.Server.Count==1000000))):Option Bool).bind fun (j7:Bool)=>(bif j7 then (zra a0 554 (([([114,101,102,117,115,101,100]:Str)]:List Str))).bind fun v12=>some v12 else (cat a0.Server.Name (([45]:Str))).bind fun v14=>(kba ((w64 (a0.Server.Count+1)))).bind fun v16=>(cat v14 v16).bind fun v18=>(zta a0.Server.To).bind fun v20=>(app 1353245080339 a0.mails (([(zVa.mk ((zEa.mk a0.Server.From v20 v18)) v1.1)]:List zVa))).bind fun v22=>(zra ((zea.mk ((zja.mk a0.Server.Name a0.Server.Size a0.Server.Many a0.Server.Phase a0.Server.Greeted a0.Server.Mailing a0.Server.From a0.Server.To a0.Server.Buffer a0.Server.Data a0.Server.Lost a0.Server.Dots a0.Server.Chunked a0.Server.Left a0.Server.Last a0.Server.Ignore ((w64 (a0.Server.Count+1))))) a0.replies v22)) 250 (([v18]:List Str))).bind fun v24=>some v24)):Option zea).bind fun (j3:zea)=>(zZa j3).bind fun v26=>some v26
noncomputable def kea(a0:zea):Option zea:=
 (bif a0.Server.Ignore then (zra ((zea.mk ((zja.mk a0.Server.Name a0.Server.Size a0.Server.Many 0 a0.Server.Greeted a0.Server.Mailing a0.Server.From a0.Server.To a0.Server.Buffer a0.Server.Data a0.Server.Lost a0.Server.Dots a0.Server.Chunked a0.Server.Left false false a0.Server.Count)) a0.replies a0.mails)) 503 (([([111,114,100,101,114]:Str)]:List Str))).bind fun v2=>some v2 else (bif a0.Server.Last then (z5a ((zea.mk ((zja.mk a0.Server.Name a0.Server.Size a0.Server.Many 0 a0.Server.Greeted a0.Server.Mailing a0.Server.From a0.Server.To a0.Server.Buffer a0.Server.Data a0.Server.Lost a0.Server.Dots a0.Server.Chunked a0.Server.Left false false a0.Server.Count)) a0.replies a0.mails))).bind fun v5=>some v5 else (zra ((zea.mk ((zja.mk a0.Server.Name a0.Server.Size a0.Server.Many 0 a0.Server.Greeted a0.Server.Mailing a0.Server.From a0.Server.To a0.Server.Buffer a0.Server.Data a0.Server.Lost a0.Server.Dots a0.Server.Chunked a0.Server.Left false false a0.Server.Count)) a0.replies a0.mails)) 250 (([([111,107]:Str)]:List Str))).bind fun v7=>some v7))
noncomputable def kAa(a0:zea)(a1:zma):Option zea:=
 (bif (a1.Verb==1) then (zZa a0).bind fun v2=>(kba v2.Server.Size).bind fun v4=>(cat (([115,105,122,101,32]:Str)) v4).bind fun v6=>(kba v2.Server.Many).bind fun v8=>(cat (([114,101,99,105,112,105,101,110,116,115,32]:Str)) v8).bind fun v10=>(zra ((zea.mk ((zja.mk v2.Server.Name v2.Server.Size v2.Server.Many v2.Server.Phase true v2.Server.Mailing v2.Server.From v2.Server.To v2.Server.Buffer v2.Server.Data v2.Server.Lost v2.Server.Dots v2.Server.Chunked v2.Server.Left v2.Server.Last v2.Server.Ignore v2.Server.Count)) v2.replies v2.mails)) 250 (([v2.Server.Name,v6,v10]:List Str))).bind fun v12=>some v12 else (bif (a1.Verb==2) then ((bif (!a0.Server.Greeted) then some true else some a0.Server.Mailing):Option Bool).bind fun (j15:Bool)=>(bif j15 then (zra a0 503 (([([111,114,100,101,114]:Str)]:List Str))).bind fun v18=>some v18 else (bif decide (a0.Server.Size < a1.Size) then (zra a0 552 (([([108,97,114,103,101]:Str)]:List Str))).bind fun v21=>some v21 else (zra ((zea.mk ((zja.mk a0.Server.Name a0.Server.Size a0.Server.Many a0.Server.Phase a0.Server.Greeted true a1.Address a0.Server.To a0.Server.Buffer a0.Server.Data a0.Server.Lost a0.Server.Dots a0.Server.Chunked a0.Server.Left a0.Server.Last a0.Server.Ignore a0.Server.Count)) a0.replies a0.mails)) 250 (([([111,107]:Str)]:List Str))).bind fun v23=>some v23)) else (bif (a1.Verb==3) then (koa a0 a1).bind fun v26=>some v26 else (bif (a1.Verb==4) then ((bif ((a0.Server.To.length:Int)==0) then some true else some a0.Server.Chunked):Option Bool).bind fun (j29:Bool)=>(bif j29 then (zra a0 503 (([([111,114,100,101,114]:Str)]:List Str))).bind fun v32=>some v32 else (zra ((zea.mk ((zja.mk a0.Server.Name a0.Server.Size a0.Server.Many 1 a0.Server.Greeted a0.Server.Mailing a0.Server.From a0.Server.To a0.Server.Buffer a0.Server.Data a0.Server.Lost a0.Server.Dots a0.Server.Chunked a0.Server.Left a0.Server.Last a0.Server.Ignore a0.Server.Count)) a0.replies a0.mails)) 354 (([([103,111,32,111,110]:Str)]:List Str))).bind fun v34=>some v34) else (bif (a1.Verb==5) then (bif (a1.Size==0) then (kea ((zea.mk ((zja.mk a0.Server.Name a0.Server.Size a0.Server.Many 2 a0.Server.Greeted a0.Server.Mailing a0.Server.From a0.Server.To a0.Server.Buffer a0.Server.Data a0.Server.Lost a0.Server.Dots ((!(((a0.Server.To.length:Int)==0)))) a1.Size a1.Last (((a0.Server.To.length:Int)==0)) a0.Server.Count)) a0.replies a0.mails))).bind fun v38=>some v38 else some ((zea.mk ((zja.mk a0.Server.Name a0.Server.Size a0.Server.Many 2 a0.Server.Greeted a0.Server.Mailing a0.Server.From a0.Server.To a0.Server.Buffer a0.Server.Data a0.Server.Lost a0.Server.Dots ((!(((a0.Server.To.length:Int)==0)))) a1.Size a1.Last (((a0.Server.To.length:Int)==0)) a0.Server.Count)) a0.replies a0.mails))) else (bif (a1.Verb==6) then (zZa a0).bind fun v41=>(zra v41 250 (([([111,107]:Str)]:List Str))).bind fun v43=>some v43 else (bif (a1.Verb==7) then (zra a0 250 (([([111,107]:Str)]:List Str))).bind fun v46=>some v46 else (bif (a1.Verb==8) then (zra a0 221 (([([98,121,101]:Str)]:List Str))).bind fun v49=>(kSa v49).bind fun v51=>some v51 else some a0))))))))
noncomputable def k3a(a0:zea)(a1:UInt8):Option zea:=
 (app 140737488355328 a0.Server.Buffer (([a1]:List UInt8))).bind fun v1=>(qDa v1 (([(13:UInt8),(10:UInt8)]:List UInt8))).bind fun v3=>(bif (!v3.2) then ((bif ((v1.length:Int)==4002) then (zra ((zea.mk ((zja.mk a0.Server.Name a0.Server.Size a0.Server.Many a0.Server.Phase a0.Server.Greeted a0.Server.Mailing a0.Server.From a0.Server.To v1 a0.Server.Data a0.Server.Lost a0.Server.Dots a0.Server.Chunked a0.Server.Left a0.Server.Last a0.Server.Ignore a0.Server.Count)) a0.replies a0.mails)) 500 (([([117,110,107,110,111,119,110]:Str)]:List Str))).bind fun v8=>(kSa v8).bind fun v10=>some v10 else some ((zea.mk ((zja.mk a0.Server.Name a0.Server.Size a0.Server.Many a0.Server.Phase a0.Server.Greeted a0.Server.Mailing a0.Server.From a0.Server.To v1 a0.Server.Data a0.Server.Lost a0.Server.Dots a0.Server.Chunked a0.Server.Left a0.Server.Last a0.Server.Ignore a0.Server.Count)) a0.replies a0.mails))):Option zea).bind fun (j6:zea)=>some j6 else (wsa v3.1).bind fun v12=>(bif (v12.2.Code==0) then (kAa ((zea.mk ((zja.mk a0.Server.Name a0.Server.Size a0.Server.Many a0.Server.Phase a0.Server.Greeted a0.Server.Mailing a0.Server.From a0.Server.To (([]:List UInt8)) a0.Server.Data a0.Server.Lost a0.Server.Dots a0.Server.Chunked a0.Server.Left a0.Server.Last a0.Server.Ignore a0.Server.Count)) a0.replies a0.mails)) v12.1).bind fun v15=>some v15 else (bif (v12.2.Code==18) then (zra ((zea.mk ((zja.mk a0.Server.Name a0.Server.Size a0.Server.Many a0.Server.Phase a0.Server.Greeted a0.Server.Mailing a0.Server.From a0.Server.To (([]:List UInt8)) a0.Server.Data a0.Server.Lost a0.Server.Dots a0.Server.Chunked a0.Server.Left a0.Server.Last a0.Server.Ignore a0.Server.Count)) a0.replies a0.mails)) 500 (([([117,110,107,110,111,119,110]:Str)]:List Str))).bind fun v18=>some v18 else (zra ((zea.mk ((zja.mk a0.Server.Name a0.Server.Size a0.Server.Many a0.Server.Phase a0.Server.Greeted a0.Server.Mailing a0.Server.From a0.Server.To (([]:List UInt8)) a0.Server.Data a0.Server.Lost a0.Server.Dots a0.Server.Chunked a0.Server.Left a0.Server.Last a0.Server.Ignore a0.Server.Count)) a0.replies a0.mails)) 501 (([([115,121,110,116,97,120]:Str)]:List Str))).bind fun v20=>some v20)))
def kca(a0:zea)(a1:UInt8):Option zea:=
 (bif decide ((a0.Server.Data.length:Int) < a0.Server.Size) then (app 140737488355328 a0.Server.Data (([a1]:List UInt8))).bind fun v2=>some ((zea.mk ((zja.mk a0.Server.Name a0.Server.Size a0.Server.Many a0.Server.Phase a0.Server.Greeted a0.Server.Mailing a0.Server.From a0.Server.To a0.Server.Buffer v2 a0.Server.Lost a0.Server.Dots a0.Server.Chunked a0.Server.Left a0.Server.Last a0.Server.Ignore a0.Server.Count)) a0.replies a0.mails)) else some ((zea.mk ((zja.mk a0.Server.Name a0.Server.Size a0.Server.Many a0.Server.Phase a0.Server.Greeted a0.Server.Mailing a0.Server.From a0.Server.To a0.Server.Buffer a0.Server.Data ((min ((w64 (a0.Server.Lost+1))) 1099511627776)) a0.Server.Dots a0.Server.Chunked a0.Server.Left a0.Server.Last a0.Server.Ignore a0.Server.Count)) a0.replies a0.mails)))
def kfa(a1:UInt8)(j1:zea):Option zea:=
 (kca j1 a1).bind fun v2=>(bif ((a1.toNat:Int)==13) then some ((zea.mk ((zja.mk v2.Server.Name v2.Server.Size v2.Server.Many v2.Server.Phase v2.Server.Greeted v2.Server.Mailing v2.Server.From v2.Server.To v2.Server.Buffer v2.Server.Data v2.Server.Lost 4 v2.Server.Chunked v2.Server.Left v2.Server.Last v2.Server.Ignore v2.Server.Count)) v2.replies v2.mails)) else ((bif ((a1.toNat:Int)==10) then some ((v2.Server.Dots==4)) else some false):Option Bool).bind fun (j5:Bool)=>(bif j5 then some ((zea.mk ((zja.mk v2.Server.Name v2.Server.Size v2.Server.Many v2.Server.Phase v2.Server.Greeted v2.Server.Mailing v2.Server.From v2.Server.To v2.Server.Buffer v2.Server.Data v2.Server.Lost 0 v2.Server.Chunked v2.Server.Left v2.Server.Last v2.Server.Ignore v2.Server.Count)) v2.replies v2.mails)) else some ((zea.mk ((zja.mk v2.Server.Name v2.Server.Size v2.Server.Many v2.Server.Phase v2.Server.Greeted v2.Server.Mailing v2.Server.From v2.Server.To v2.Server.Buffer v2.Server.Data v2.Server.Lost 3 v2.Server.Chunked v2.Server.Left v2.Server.Last v2.Server.Ignore v2.Server.Count)) v2.replies v2.mails))))
noncomputable def k4a(a0:zea)(a1:UInt8):Option zea:=
 ((bif (a0.Server.Dots==0) then some (((a1.toNat:Int)==46)) else some false):Option Bool).bind fun (j8:Bool)=>(bif j8 then some ((zea.mk ((zja.mk a0.Server.Name a0.Server.Size a0.Server.Many a0.Server.Phase a0.Server.Greeted a0.Server.Mailing a0.Server.From a0.Server.To a0.Server.Buffer a0.Server.Data a0.Server.Lost 1 a0.Server.Chunked a0.Server.Left a0.Server.Last a0.Server.Ignore a0.Server.Count)) a0.replies a0.mails)) else ((bif (a0.Server.Dots==1) then some (((a1.toNat:Int)==13)) else some false):Option Bool).bind fun (j11:Bool)=>(bif j11 then some ((zea.mk ((zja.mk a0.Server.Name a0.Server.Size a0.Server.Many a0.Server.Phase a0.Server.Greeted a0.Server.Mailing a0.Server.From a0.Server.To a0.Server.Buffer a0.Server.Data a0.Server.Lost 2 a0.Server.Chunked a0.Server.Left a0.Server.Last a0.Server.Ignore a0.Server.Count)) a0.replies a0.mails)) else ((bif (a0.Server.Dots==2) then some (((a1.toNat:Int)==10)) else some false):Option Bool).bind fun (j14:Bool)=>(bif j14 then (z5a ((zea.mk ((zja.mk a0.Server.Name a0.Server.Size a0.Server.Many 0 a0.Server.Greeted a0.Server.Mailing a0.Server.From a0.Server.To a0.Server.Buffer a0.Server.Data a0.Server.Lost 0 a0.Server.Chunked a0.Server.Left a0.Server.Last a0.Server.Ignore a0.Server.Count)) a0.replies a0.mails))).bind fun v17=>some v17 else (bif (a0.Server.Dots==2) then (kca a0 ((13:UInt8))).bind fun v20=>(kfa a1 v20) else (kfa a1 a0)))))
noncomputable def qka(a1:List UInt8)(s20:Int × zea):Option (Step (Int × zea) zea):=
 (bif decide (s20.1 < (a1.length:Int)) then ((idx a1 s20.1).bind fun v25=>(bif (s20.2.Server.Phase==0) then (k3a s20.2 v25).bind fun v28=>some v28 else (bif (s20.2.Server.Phase==1) then (k4a s20.2 v25).bind fun v31=>some v31 else (bif (s20.2.Server.Phase==2) then ((bif (!s20.2.Server.Ignore) then (kca s20.2 v25).bind fun v36=>some v36 else some s20.2):Option zea).bind fun (j34:zea)=>(bif ((w64 (j34.Server.Left - 1))==0) then (kea ((zea.mk ((zja.mk j34.Server.Name j34.Server.Size j34.Server.Many j34.Server.Phase j34.Server.Greeted j34.Server.Mailing j34.Server.From j34.Server.To j34.Server.Buffer j34.Server.Data j34.Server.Lost j34.Server.Dots j34.Server.Chunked ((w64 (j34.Server.Left - 1))) j34.Server.Last j34.Server.Ignore j34.Server.Count)) j34.replies j34.mails))).bind fun v39=>some v39 else some ((zea.mk ((zja.mk j34.Server.Name j34.Server.Size j34.Server.Many j34.Server.Phase j34.Server.Greeted j34.Server.Mailing j34.Server.From j34.Server.To j34.Server.Buffer j34.Server.Data j34.Server.Lost j34.Server.Dots j34.Server.Chunked ((w64 (j34.Server.Left - 1))) j34.Server.Last j34.Server.Ignore j34.Server.Count)) j34.replies j34.mails))) else some s20.2))):Option zea).bind fun (j24:zea)=>some (.cont ((w64 (s20.1+1)),j24)) else some (.out s20.2))
noncomputable def v4a(a0:zja)(a1:List UInt8):Option (zja × (List zLa) × (List zVa) × zva):=
 (k0a a0.Name a0.Size a0.Many).bind fun v1=>(z8a v1).bind fun v3=>(bif v3 then some (((zja.mk (([]:Str)) 0 0 0 false false (([]:Str)) ([]) ([]) ([]) 0 0 false 0 false false 0),[],[],v1)) else (wva a0).bind fun v6=>(bif (!v6) then (zxa 5 ((-23))).bind fun v9=>some (((zja.mk (([]:Str)) 0 0 0 false false (([]:Str)) ([]) ([]) ([]) 0 0 false 0 false false 0),[],[],v9)) else (bif decide (40000 < (a1.length:Int)) then (zxa 1 ((-1))).bind fun v12=>some (((zja.mk (([]:Str)) 0 0 0 false false (([]:Str)) ([]) ([]) ([]) 0 0 false 0 false false 0),[],[],v12)) else (zta a0.To).bind fun v14=>(kza a0.Buffer).bind fun v16=>(kza a0.Data).bind fun v18=>(iter (qka a1) ((0,(zea.mk ((zja.mk a0.Name a0.Size a0.Many a0.Phase a0.Greeted a0.Mailing a0.From v14 v16 v18 a0.Lost a0.Dots a0.Chunked a0.Left a0.Last a0.Ignore a0.Count)) (([]:List zLa)) (([]:List zVa)))))).bind fun b21=>(kCa).bind fun v41=>some ((b21.Server,b21.replies,b21.mails,v41)))))
def wda(a0:zda)(a1:Int)(a2:Str):Option zda:=
 (app 4398046511104 a0.Replies (([(zLa.mk a1 (([a2]:List Str)))]:List zLa))).bind fun v1=>some ((zda.mk a0.S v1 a0.Mails))
def vAa(a0:zda):Option zda:=
 some ((zda.mk ((zja.mk a0.S.Name a0.S.Size a0.S.Many a0.S.Phase a0.S.Greeted false (([]:Str)) ([]) a0.S.Buffer (([]:List UInt8)) 0 a0.S.Dots false a0.S.Left a0.S.Last a0.S.Ignore a0.S.Count)) a0.Replies a0.Mails))
noncomputable def Zoa(a0:zda):Option zda:=
 (Qsa a0.S.Data).bind fun v1=>(bif decide (0 < a0.S.Lost) then (wda a0 552 (([108,97,114,103,101]:Str))).bind fun v4=>(vAa v4).bind fun v6=>some v6 else ((bif (!v1.2) then some true else some ((a0.S.Count==1000000))):Option Bool).bind fun (j8:Bool)=>(bif j8 then (wda a0 554 (([114,101,102,117,115,101,100]:Str))).bind fun v11=>(vAa v11).bind fun v13=>some v13 else (cat a0.S.Name (([45]:Str))).bind fun v15=>(Zla ((w64 (a0.S.Count+1)))).bind fun v17=>(cat v15 v17).bind fun v19=>(app 1353245080339 a0.Mails (([(zVa.mk ((zEa.mk a0.S.From a0.S.To v19)) v1.1)]:List zVa))).bind fun v21=>(wda ((zda.mk ((zja.mk a0.S.Name a0.S.Size a0.S.Many a0.S.Phase a0.S.Greeted a0.S.Mailing a0.S.From a0.S.To a0.S.Buffer a0.S.Data a0.S.Lost a0.S.Dots a0.S.Chunked a0.S.Left a0.S.Last a0.S.Ignore ((w64 (a0.S.Count+1))))) a0.Replies v21)) 250 v19).bind fun v23=>(vAa v23).bind fun v25=>some v25))
noncomputable def Zpa(a0:zda):Option zda:=
 (bif a0.S.Ignore then (wda ((zda.mk ((zja.mk a0.S.Name a0.S.Size a0.S.Many 0 a0.S.Greeted a0.S.Mailing a0.S.From a0.S.To a0.S.Buffer a0.S.Data a0.S.Lost a0.S.Dots a0.S.Chunked a0.S.Left false false a0.S.Count)) a0.Replies a0.Mails)) 503 (([111,114,100,101,114]:Str))).bind fun v2=>some v2 else (bif a0.S.Last then (Zoa ((zda.mk ((zja.mk a0.S.Name a0.S.Size a0.S.Many 0 a0.S.Greeted a0.S.Mailing a0.S.From a0.S.To a0.S.Buffer a0.S.Data a0.S.Lost a0.S.Dots a0.S.Chunked a0.S.Left false false a0.S.Count)) a0.Replies a0.Mails))).bind fun v5=>some v5 else (wda ((zda.mk ((zja.mk a0.S.Name a0.S.Size a0.S.Many 0 a0.S.Greeted a0.S.Mailing a0.S.From a0.S.To a0.S.Buffer a0.S.Data a0.S.Lost a0.S.Dots a0.S.Chunked a0.S.Left false false a0.S.Count)) a0.Replies a0.Mails)) 250 (([111,107]:Str))).bind fun v7=>some v7))
def wwa(j1:zda):Option zda:=
 (wda j1 250 (([111,107]:Str))).bind fun v2=>some v2
noncomputable def VGa(a0:zda)(a1:zma):Option zda:=
 (bif (a1.Verb==1) then (vAa a0).bind fun v5=>(Zla v5.S.Size).bind fun v7=>(cat (([115,105,122,101,32]:Str)) v7).bind fun v9=>(Zla v5.S.Many).bind fun v11=>(cat (([114,101,99,105,112,105,101,110,116,115,32]:Str)) v11).bind fun v13=>(app 4398046511104 v5.Replies (([(zLa.mk 250 (([v5.S.Name,v9,v13]:List Str)))]:List zLa))).bind fun v15=>some ((zda.mk ((zja.mk v5.S.Name v5.S.Size v5.S.Many v5.S.Phase true v5.S.Mailing v5.S.From v5.S.To v5.S.Buffer v5.S.Data v5.S.Lost v5.S.Dots v5.S.Chunked v5.S.Left v5.S.Last v5.S.Ignore v5.S.Count)) v15 v5.Mails)) else (bif (a1.Verb==2) then ((bif (!a0.S.Greeted) then some true else some a0.S.Mailing):Option Bool).bind fun (j18:Bool)=>(bif j18 then (wda a0 503 (([111,114,100,101,114]:Str))).bind fun v21=>some v21 else (bif decide (a0.S.Size < a1.Size) then (wda a0 552 (([108,97,114,103,101]:Str))).bind fun v24=>some v24 else (wwa (zda.mk ((zja.mk a0.S.Name a0.S.Size a0.S.Many a0.S.Phase a0.S.Greeted true a1.Address a0.S.To a0.S.Buffer a0.S.Data a0.S.Lost a0.S.Dots a0.S.Chunked a0.S.Left a0.S.Last a0.S.Ignore a0.S.Count)) a0.Replies a0.Mails)))) else (bif (a1.Verb==3) then ((bif (!a0.S.Mailing) then some true else some a0.S.Chunked):Option Bool).bind fun (j27:Bool)=>(bif j27 then (wda a0 503 (([111,114,100,101,114]:Str))).bind fun v30=>some v30 else (app 5864062014805 (([]:List zca)) a0.S.To).bind fun v32=>(app 5864062014805 v32 (([(zca.mk a1.Address a1.Notify)]:List zca))).bind fun v34=>(ztb v34).bind fun v36=>(bif decide (a0.S.Many < (v36.length:Int)) then (wda a0 452 (([109,97,110,121]:Str))).bind fun v39=>some v39 else (wwa (zda.mk ((zja.mk a0.S.Name a0.S.Size a0.S.Many a0.S.Phase a0.S.Greeted a0.S.Mailing a0.S.From v36 a0.S.Buffer a0.S.Data a0.S.Lost a0.S.Dots a0.S.Chunked a0.S.Left a0.S.Last a0.S.Ignore a0.S.Count)) a0.Replies a0.Mails)))) else (bif (a1.Verb==4) then ((bif ((a0.S.To.length:Int)==0) then some true else some a0.S.Chunked):Option Bool).bind fun (j42:Bool)=>(bif j42 then (wda a0 503 (([111,114,100,101,114]:Str))).bind fun v45=>some v45 else (wda ((zda.mk ((zja.mk a0.S.Name a0.S.Size a0.S.Many 1 a0.S.Greeted a0.S.Mailing a0.S.From a0.S.To a0.S.Buffer a0.S.Data a0.S.Lost 0 a0.S.Chunked a0.S.Left a0.S.Last a0.S.Ignore a0.S.Count)) a0.Replies a0.Mails)) 354 (([103,111,32,111,110]:Str))).bind fun v47=>some v47) else (bif (a1.Verb==5) then ((bif (!(((a0.S.To.length:Int)==0))) then some ((zda.mk ((zja.mk a0.S.Name a0.S.Size a0.S.Many 2 a0.S.Greeted a0.S.Mailing a0.S.From a0.S.To a0.S.Buffer a0.S.Data a0.S.Lost a0.S.Dots true a1.Size a1.Last (((a0.S.To.length:Int)==0)) a0.S.Count)) a0.Replies a0.Mails)) else some ((zda.mk ((zja.mk a0.S.Name a0.S.Size a0.S.Many 2 a0.S.Greeted a0.S.Mailing a0.S.From a0.S.To a0.S.Buffer a0.S.Data a0.S.Lost a0.S.Dots a0.S.Chunked a1.Size a1.Last (((a0.S.To.length:Int)==0)) a0.S.Count)) a0.Replies a0.Mails))):Option zda).bind fun (j50:zda)=>(bif (a1.Size==0) then (Zpa j50).bind fun v53=>some v53 else some j50) else (bif (a1.Verb==6) then (vAa a0).bind fun v56=>(wwa v56) else (bif (a1.Verb==8) then (vAa a0).bind fun v59=>(wda ((zda.mk ((zja.mk v59.S.Name v59.S.Size v59.S.Many 3 v59.S.Greeted v59.S.Mailing v59.S.From v59.S.To v59.S.Buffer v59.S.Data v59.S.Lost v59.S.Dots v59.S.Chunked v59.S.Left v59.S.Last v59.S.Ignore v59.S.Count)) v59.Replies v59.Mails)) 221 (([98,121,101]:Str))).bind fun v61=>some v61 else (wwa a0))))))))
noncomputable def Qta(a0:zda)(a1:UInt8):Option zda:=
 (app 140737488355328 (([]:List UInt8)) a0.S.Buffer).bind fun v1=>(app 140737488355328 v1 (([a1]:List UInt8))).bind fun v3=>((bif decide (2<=(v3.length:Int)) then (idx v3 ((w64 ((v3.length:Int) - 2)))).bind fun v7=>(bif ((v7.toNat:Int)==13) then (idx v3 ((w64 ((v3.length:Int) - 1)))).bind fun v10=>some (((v10.toNat:Int)==10)) else some false) else some false):Option Bool).bind fun (j5:Bool)=>(bif j5 then (cut v3 0 ((w64 ((v3.length:Int) - 2)))).bind fun v13=>(Qra v13).bind fun v15=>(bif (v15.2.Code==18) then (wda ((zda.mk ((zja.mk a0.S.Name a0.S.Size a0.S.Many a0.S.Phase a0.S.Greeted a0.S.Mailing a0.S.From a0.S.To ([]) a0.S.Data a0.S.Lost a0.S.Dots a0.S.Chunked a0.S.Left a0.S.Last a0.S.Ignore a0.S.Count)) a0.Replies a0.Mails)) 500 (([117,110,107,110,111,119,110]:Str))).bind fun v18=>some v18 else (bif (v15.2.Code !=0) then (wda ((zda.mk ((zja.mk a0.S.Name a0.S.Size a0.S.Many a0.S.Phase a0.S.Greeted a0.S.Mailing a0.S.From a0.S.To ([]) a0.S.Data a0.S.Lost a0.S.Dots a0.S.Chunked a0.S.Left a0.S.Last a0.S.Ignore a0.S.Count)) a0.Replies a0.Mails)) 501 (([115,121,110,116,97,120]:Str))).bind fun v21=>some v21 else (VGa ((zda.mk ((zja.mk a0.S.Name a0.S.Size a0.S.Many a0.S.Phase a0.S.Greeted a0.S.Mailing a0.S.From a0.S.To ([]) a0.S.Data a0.S.Lost a0.S.Dots a0.S.Chunked a0.S.Left a0.S.Last a0.S.Ignore a0.S.Count)) a0.Replies a0.Mails)) v15.1).bind fun v23=>some v23)) else (bif ((v3.length:Int)==4002) then (vAa ((zda.mk ((zja.mk a0.S.Name a0.S.Size a0.S.Many a0.S.Phase a0.S.Greeted a0.S.Mailing a0.S.From a0.S.To v3 a0.S.Data a0.S.Lost a0.S.Dots a0.S.Chunked a0.S.Left a0.S.Last a0.S.Ignore a0.S.Count)) a0.Replies a0.Mails))).bind fun v26=>(wda ((zda.mk ((zja.mk v26.S.Name v26.S.Size v26.S.Many 3 v26.S.Greeted v26.S.Mailing v26.S.From v26.S.To ([]) v26.S.Data v26.S.Lost v26.S.Dots v26.S.Chunked v26.S.Left v26.S.Last v26.S.Ignore v26.S.Count)) v26.Replies v26.Mails)) 500 (([117,110,107,110,111,119,110]:Str))).bind fun v28=>some v28 else some ((zda.mk ((zja.mk a0.S.Name a0.S.Size a0.S.Many a0.S.Phase a0.S.Greeted a0.S.Mailing a0.S.From a0.S.To v3 a0.S.Data a0.S.Lost a0.S.Dots a0.S.Chunked a0.S.Left a0.S.Last a0.S.Ignore a0.S.Count)) a0.Replies a0.Mails))))
def Qua(a0:zda)(a1:UInt8):Option zda:=
 ((bif decide ((a0.S.Data.length:Int) < a0.S.Size) then (app 140737488355328 a0.S.Data (([a1]:List UInt8))).bind fun v3=>some ((zda.mk ((zja.mk a0.S.Name a0.S.Size a0.S.Many a0.S.Phase a0.S.Greeted a0.S.Mailing a0.S.From a0.S.To a0.S.Buffer v3 a0.S.Lost a0.S.Dots a0.S.Chunked a0.S.Left a0.S.Last a0.S.Ignore a0.S.Count)) a0.Replies a0.Mails)) else (bif decide (a0.S.Lost < 1099511627776) then some ((zda.mk ((zja.mk a0.S.Name a0.S.Size a0.S.Many a0.S.Phase a0.S.Greeted a0.S.Mailing a0.S.From a0.S.To a0.S.Buffer a0.S.Data ((w64 (a0.S.Lost+1))) a0.S.Dots a0.S.Chunked a0.S.Left a0.S.Last a0.S.Ignore a0.S.Count)) a0.Replies a0.Mails)) else some a0)):Option zda).bind fun (j1:zda)=>some j1
noncomputable def Qva(a0:zda)(a1:UInt8):Option zda:=
 ((bif (a0.S.Dots==0) then some (((a1.toNat:Int)==46)) else some false):Option Bool).bind fun (j1:Bool)=>(bif j1 then some ((zda.mk ((zja.mk a0.S.Name a0.S.Size a0.S.Many a0.S.Phase a0.S.Greeted a0.S.Mailing a0.S.From a0.S.To a0.S.Buffer a0.S.Data a0.S.Lost 1 a0.S.Chunked a0.S.Left a0.S.Last a0.S.Ignore a0.S.Count)) a0.Replies a0.Mails)) else ((bif (a0.S.Dots==1) then some (((a1.toNat:Int)==13)) else some false):Option Bool).bind fun (j4:Bool)=>(bif j4 then some ((zda.mk ((zja.mk a0.S.Name a0.S.Size a0.S.Many a0.S.Phase a0.S.Greeted a0.S.Mailing a0.S.From a0.S.To a0.S.Buffer a0.S.Data a0.S.Lost 2 a0.S.Chunked a0.S.Left a0.S.Last a0.S.Ignore a0.S.Count)) a0.Replies a0.Mails)) else ((bif (a0.S.Dots==2) then some (((a1.toNat:Int)==10)) else some false):Option Bool).bind fun (j7:Bool)=>(bif j7 then (Zoa ((zda.mk ((zja.mk a0.S.Name a0.S.Size a0.S.Many 0 a0.S.Greeted a0.S.Mailing a0.S.From a0.S.To a0.S.Buffer a0.S.Data a0.S.Lost 0 a0.S.Chunked a0.S.Left a0.S.Last a0.S.Ignore a0.S.Count)) a0.Replies a0.Mails))).bind fun v10=>some v10 else ((bif (a0.S.Dots==2) then (Qua a0 ((13:UInt8))).bind fun v14=>some v14 else some a0):Option zda).bind fun (j12:zda)=>(Qua j12 a1).bind fun v16=>((bif ((a1.toNat:Int)==13) then some ((zda.mk ((zja.mk v16.S.Name v16.S.Size v16.S.Many v16.S.Phase v16.S.Greeted v16.S.Mailing v16.S.From v16.S.To v16.S.Buffer v16.S.Data v16.S.Lost 4 v16.S.Chunked v16.S.Left v16.S.Last v16.S.Ignore v16.S.Count)) v16.Replies v16.Mails)) else some ((zda.mk ((zja.mk v16.S.Name v16.S.Size v16.S.Many v16.S.Phase v16.S.Greeted v16.S.Mailing v16.S.From v16.S.To v16.S.Buffer v16.S.Data v16.S.Lost 3 v16.S.Chunked v16.S.Left v16.S.Last v16.S.Ignore v16.S.Count)) v16.Replies v16.Mails))):Option zda).bind fun (j18:zda)=>(((bif (a0.S.Dots==4) then some (((a1.toNat:Int)==10)) else some false):Option Bool).bind fun (j21:Bool)=>(bif j21 then some ((zda.mk ((zja.mk j18.S.Name j18.S.Size j18.S.Many j18.S.Phase j18.S.Greeted j18.S.Mailing j18.S.From j18.S.To j18.S.Buffer j18.S.Data j18.S.Lost 0 j18.S.Chunked j18.S.Left j18.S.Last j18.S.Ignore j18.S.Count)) j18.Replies j18.Mails)) else some j18):Option zda).bind fun (j20:zda)=>some j20)))
noncomputable def yja(a1:List UInt8)(s3:Int × zda):Option (Step (Int × zda) zda):=
 (bif decide (s3.1 < (a1.length:Int)) then ((bif (s3.2.S.Phase==0) then (idx a1 s3.1).bind fun v9=>(Qta s3.2 v9).bind fun v11=>some v11 else (bif (s3.2.S.Phase==1) then (idx a1 s3.1).bind fun v14=>(Qva s3.2 v14).bind fun v16=>some v16 else (bif (s3.2.S.Phase==2) then ((bif (!s3.2.S.Ignore) then (idx a1 s3.1).bind fun v21=>(Qua s3.2 v21).bind fun v23=>some v23 else some s3.2):Option zda).bind fun (j19:zda)=>(bif ((w64 (j19.S.Left - 1))==0) then (Zpa ((zda.mk ((zja.mk j19.S.Name j19.S.Size j19.S.Many j19.S.Phase j19.S.Greeted j19.S.Mailing j19.S.From j19.S.To j19.S.Buffer j19.S.Data j19.S.Lost j19.S.Dots j19.S.Chunked ((w64 (j19.S.Left - 1))) j19.S.Last j19.S.Ignore j19.S.Count)) j19.Replies j19.Mails))).bind fun v26=>some v26 else some ((zda.mk ((zja.mk j19.S.Name j19.S.Size j19.S.Many j19.S.Phase j19.S.Greeted j19.S.Mailing j19.S.From j19.S.To j19.S.Buffer j19.S.Data j19.S.Lost j19.S.Dots j19.S.Chunked ((w64 (j19.S.Left - 1))) j19.S.Last j19.S.Ignore j19.S.Count)) j19.Replies j19.Mails))) else some s3.2))):Option zda).bind fun (j7:zda)=>some (.cont ((w64 (s3.1+1)),j7)) else some (.out s3.2))
noncomputable def jya(a0:zja):Option zva:=
 ((Zia a0.Name).bind fun v2=>(bif (!v2) then some true else some (decide (40 < (a0.Name.length:Int)))):Option Bool).bind fun (j1:Bool)=>(bif j1 then (R_At 10 ((-20))).bind fun v6=>some v6 else (R_In a0.Size 1 12000).bind fun v8=>(bif (!v8) then (R_At 3 ((-21))).bind fun v11=>some v11 else (R_In a0.Many 1 60).bind fun v13=>(bif (!v13) then (R_At 3 ((-22))).bind fun v16=>some v16 else some ((zva.mk 0 0)))))
noncomputable def Waa(a0:Str)(a1:Int)(a2:Int):Option (zja × zLa × zva):=
 (jya ((zja.mk a0 a1 a2 0 false false (([]:Str)) ([]) ([]) ([]) 0 0 false 0 false false 0))).bind fun v1=>(bif (v1.Code !=0) then some (((zja.mk (([]:Str)) 0 0 0 false false (([]:Str)) ([]) ([]) ([]) 0 0 false 0 false false 0),(zLa.mk 0 ([])),v1)) else some (((zja.mk a0 a1 a2 0 false false (([]:Str)) ([]) ([]) ([]) 0 0 false 0 false false 0),(zLa.mk 220 (([a0]:List Str))),v1)))
noncomputable def jZa:Option Bool:=
 (wQa (([109,120]:Str)) 1000 10).bind fun v1=>(v4a v1.1 (([(104:UInt8),(101:UInt8),(108:UInt8),(108:UInt8),(111:UInt8),(32:UInt8),(99:UInt8),(13:UInt8),(10:UInt8),(109:UInt8),(97:UInt8),(105:UInt8),(108:UInt8),(32:UInt8),(60:UInt8),(115:UInt8),(64:UInt8),(120:UInt8),(62:UInt8),(13:UInt8),(10:UInt8),(114:UInt8),(99:UInt8),(112:UInt8),(116:UInt8),(32:UInt8),(60:UInt8),(97:UInt8),(64:UInt8),(121:UInt8),(62:UInt8),(13:UInt8),(10:UInt8),(100:UInt8),(97:UInt8),(116:UInt8),(97:UInt8),(13:UInt8),(10:UInt8),(13:UInt8),(10:UInt8),(46:UInt8),(46:UInt8),(13:UInt8),(10:UInt8),(46:UInt8),(13:UInt8),(10:UInt8),(110:UInt8),(111:UInt8),(111:UInt8),(112:UInt8),(13:UInt8),(10:UInt8)]:List UInt8))).bind fun v3=>(wQa (([]:Str)) 1 1).bind fun v5=>((bif (v1.2.2.Code !=0) then some true else (bif (v3.2.2.2.Code !=0) then some true else (R_At 10 ((-20))).bind fun v10=>(bif (!(jwa [(v5.2.2.Code==v10.Code),(v5.2.2.Index==v10.Index)])) then some true else (bif (v1.2.1.Code !=220) then some true else (bif ((v3.2.1.length:Int) !=6) then some true else (bif ((v3.2.2.1.length:Int) !=1) then some true else (idx v3.2.2.1 0).bind fun v16=>some (((v16.Envelope.To.length:Int) !=1)))))))):Option Bool).bind fun (j7:Bool)=>(bif j7 then some false else ((idx v3.2.1 3).bind fun v20=>(bif (v20.Code==354) then (idx v3.2.1 4).bind fun v23=>(Z3a v23.Lines (([([109,120,45,49]:Str)]:List Str))).bind fun v25=>(bif v25 then (idx v3.2.1 5).bind fun v28=>(bif (v28.Code==250) then (bif (v3.1.Count==1) then (idx v3.2.2.1 0).bind fun v32=>(bif (v32.Envelope.From==([115,64,120]:Str)) then (idx v3.2.2.1 0).bind fun v35=>(bif (v35.Envelope.Id==([109,120,45,49]:Str)) then (idx v3.2.2.1 0).bind fun v38=>some ((v38.Message.Body==([46,13,10]:Str))) else some false) else some false) else some false) else some false) else some false) else some false):Option Bool).bind fun (j19:Bool)=>some j19)
def zPa(a0:zVa)(s21:Int × (List UInt8)):Option (Step (Int × (List UInt8)) (List UInt8)):=
 (bif decide (s21.1 < (a0.Envelope.To.length:Int)) then (idx a0.Envelope.To s21.1).bind fun v25=>(cat (([114,99,112,116,32,60]:Str)) v25.Address).bind fun v27=>(cat v27 (([62,32,110,111,116,105,102,121,61]:Str))).bind fun v29=>(idx a0.Envelope.To s21.1).bind fun v31=>(wca v31.Notify).bind fun v33=>(cat v29 v33).bind fun v35=>(cat v35 (([13,10]:Str))).bind fun v37=>(app 140737488355328 s21.2 v37).bind fun v39=>some (.cont ((w64 (s21.1+1)),v39)) else some (.out s21.2))
noncomputable def kMa(a0:zVa):Option Bool:=
 ((jZa).bind fun v2=>(bif (!v2) then some true else (yVa a0).bind fun v5=>(bif (v5.Code !=0) then some true else (ktb a0.Message).bind fun v8=>some v8)):Option Bool).bind fun (j1:Bool)=>(bif j1 then (jZa).bind fun v11=>some v11 else (wQa (([109,120]:Str)) 12000 60).bind fun v13=>(cat (([104,101,108,108,111,32,99,13,10,109,97,105,108,32,60]:Str)) a0.Envelope.From).bind fun v15=>(cat v15 (([62,13,10]:Str))).bind fun v17=>(app 140737488355328 (([]:List UInt8)) v17).bind fun v19=>(iter (zPa a0) ((0,v19))).bind fun b22=>(app 140737488355328 b22 (([100,97,116,97,13,10]:Str))).bind fun v41=>(qha a0.Message).bind fun v43=>(ksb v43).bind fun v45=>(app 140737488355328 v41 v45).bind fun v47=>(v4a v13.1 v47).bind fun v49=>((bif (v13.2.2.Code !=0) then some true else (bif (v49.2.2.2.Code !=0) then some true else some (((v49.2.2.1.length:Int) !=1)))):Option Bool).bind fun (j51:Bool)=>(bif j51 then some false else (idx v49.2.2.1 0).bind fun v55=>(jXa v55 ((zVa.mk ((zEa.mk a0.Envelope.From a0.Envelope.To (([109,120,45,49]:Str)))) a0.Message))).bind fun v57=>some v57))
section
theorem jnb(a b:Nat)(h:a+b<=9223372036854775807):w64 ((a:Int)+(b:Int))=((a+b:Nat):Int):=by
 rw[qsa (by omega) (by omega)];simp
theorem kub(a k:Nat)(h:a+OfNat.ofNat k<=9223372036854775807):w64 ((a:Int)+(no_index (OfNat.ofNat k:Int)))=((a+OfNat.ofNat k:Nat):Int):=by
 have e:(OfNat.ofNat k:Int)=((OfNat.ofNat k:Nat):Int):=rfl;rw[e];exact jnb a _ h
theorem job(a b:Nat)(h:b<=a)(ha:a<=9223372036854775807):w64 ((a:Int) - (b:Int))=((a - b:Nat):Int):=by
 rw[qsa (by omega) (by omega)];omega
theorem jpb(a k:Nat)(h:OfNat.ofNat k<=a)(ha:a<=9223372036854775807):w64 ((a:Int) - (no_index (OfNat.ofNat k:Int)))=((a - OfNat.ofNat k:Nat):Int):=by
 have e:(OfNat.ofNat k:Int)=((OfNat.ofNat k:Nat):Int):=rfl;rw[e];exact job a _ h ha
theorem ZHa(a:Nat)(h:a<=9223372036854775807):w64 (a:Int)=(a:Int):=qsa (by omega) (by omega)
theorem qEa(c:UInt8)(k:Nat)(hk:OfNat.ofNat k < 256):((c.toNat:Int)==no_index (OfNat.ofNat k:Int))=(c==OfNat.ofNat k):=by
 have e:(OfNat.ofNat k:Int)=((OfNat.ofNat k:Nat):Int):=rfl;have h2:(OfNat.ofNat k:UInt8).toNat=(OfNat.ofNat k:Nat):=by
  show (UInt8.ofNat k).toNat=k;rw[UInt8.toNat_ofNat'];exact Nat.mod_eq_of_lt hk
 rw[Bool.eq_iff_iff,beq_iff_eq,beq_iff_eq,<-UInt8.toNat_inj,h2,e];omega
theorem ZIa(c:UInt8)(k:Nat)(hk:OfNat.ofNat k < 256):((c.toNat:Int) !=no_index (OfNat.ofNat k:Int))=(c !=OfNat.ofNat k):=by
 unfold bne;rw[qEa c k hk]
section
variable {α:Type}
theorem v5a(l:List α)(i:Nat):idx l (i:Int)=l[i]? :=by unfold idx;rw[if_pos (by omega)];simp
theorem idx_lit(l:List α)(k:Nat):idx l (no_index (OfNat.ofNat k:Int))=l[(OfNat.ofNat k:Nat)]? :=v5a l k
theorem K0a{l:List α}{i:Nat}(h:i < l.length):idx l (i:Int)=some l[i]:=by rw[v5a];exact List.getElem?_eq_getElem h
theorem W8a(p:List α)(x:α)(r:List α):idx (p++x::r) (p.length:Int)=some x:=by rw[v5a];simp
theorem kvb{l:List α}{a b:Nat}(h1:a<=b)(h2:b<=l.length):cut l (a:Int) (b:Int)=some ((l.drop a).take (b - a)):=by
 unfold cut;rw[if_pos (by omega)];simp
theorem yXa{l:List α}{a:Nat}(h1:a<=l.length):cut l (a:Int) (l.length:Int)=some (l.drop a):=by
 rw[kvb h1 (Nat.le_refl _)];rw[List.take_of_length_le (by simp)]
theorem j0a{l:List α}{b:Nat}(h2:b<=l.length):cut l 0 (b:Int)=some (l.take b):=by
 have:=kvb (l:=l) (a:=0) (b:=b) (by omega) h2;simpa using this
theorem zYa{lim:Nat}{l xs:List α}(h:l.length+xs.length<=lim):app lim l xs=some (l++xs):=by unfold app;rw[if_pos h]
theorem wxa{a b:Str}(h:a.length+b.length<=9223372036854775807):cat a b=some (a++b):=by unfold cat;rw[if_pos h]
end
section
variable {A R:Type} {body:A->Option (Step A R)}
theorem WKa(Inv:A->Prop)(m:A->Nat)(Post:A->R->Prop)
 (h:∀s,Inv s->(∃r,body s=some (.out r)/\Post s r)∨∃s',body s=some (.cont s')/\Inv s' /\m s' < m s/\∀r,Post s' r->Post s r):
 ∀s,Inv s->∃r,iter body s=some r/\Post s r:=by
 intro s;induction hn:m s using Nat.strongRecOn generalizing s with
 | _ n ih=>
  intro hi;rcases h s hi with ⟨r,h1,h2⟩ | ⟨s',h1,h2,h3,h4⟩
  .exact ⟨r,zGa h1,h2⟩
  obtain ⟨r,h5,h6⟩:=ih (m s') (by omega) s' rfl h2;exact ⟨r,(zNa h1).trans h5,h4 r h6⟩
theorem jqb{α S:Type}(l:List α)(enc:Nat->S->A)(spec:Nat->List α->S->R)
 (h0:∀s,body (enc l.length s)=some (.out (spec l.length [] s)))
 (h1:∀p x r s,l=p++x::r->(body (enc p.length s)=some (.out (spec p.length (x::r) s)))∨∃s',body (enc p.length s)=some (.cont (enc (p.length+1) s'))/\spec p.length (x::r) s=spec (p.length+1) r s'):
 ∀{s0:A} (s:S) (_:s0=enc 0 s),iter body s0=some (spec 0 l s):=by
 have key:∀r p s,l=p++r->iter body (enc p.length s)=some (spec p.length r s):=by
  intro r;induction r with
  | nil=>
   intro p s h;have:p=l:=by simp[h]
   subst this;exact zGa (h0 s)
  | cons x r ih=>
   intro p s h;rcases h1 p x r s h with hb | ⟨s',hb,hs⟩
   .exact zGa hb
   rw[zNa hb,hs];have:=ih (p++ [x]) s' (by simp[h]);simpa using this
 rintro _ s rfl;exact key l [] s rfl
theorem VHa{α S:Type}(l:List α)(enc:Nat->S->A)(spec:Nat->List α->S->R)(Inv:Nat->List α->S->Prop)
 (h0:∀s,Inv l.length [] s->body (enc l.length s)=some (.out (spec l.length [] s)))
 (h1:∀p x r s,l=p++x::r->Inv p.length (x::r) s->(body (enc p.length s)=some (.out (spec p.length (x::r) s)))∨∃s',body (enc p.length s)=some (.cont (enc (p.length+1) s'))/\spec p.length (x::r) s=spec (p.length+1) r s' /\Inv (p.length+1) r s'):
 ∀{s0:A} (s:S) (_:s0=enc 0 s) (_:Inv 0 l s),iter body s0=some (spec 0 l s):=by
 have key:∀r p s,l=p++r->Inv p.length r s->iter body (enc p.length s)=some (spec p.length r s):=by
  intro r;induction r with
  | nil=>
   intro p s h hi;have:p=l:=by simp[h]
   subst this;exact zGa (h0 s hi)
  | cons x r ih=>
   intro p s h hi;rcases h1 p x r s h hi with hb | ⟨s',hb,hs,hi'⟩
   .exact zGa hb
   rw[zNa hb,hs];have:=ih (p++ [x]) s' (by simp[h]) (by simpa using hi');simpa using this
 rintro _ s rfl hi;exact key l [] s rfl hi
theorem q2b{α:Type}(p:List α)(x:α)(r:List α):(p++x::r)[p.length]? =some x:=by simp
end
end
section
section
variable {α R O A S:Type}
def zFa(q:Nat->α->Option R):Nat->List α->Option R
 | _,[]=>none
 | i,x::r=>match q i x with | some y=>some y | none=>zFa q (i+1) r
theorem zQa(l:List α)(q:Nat->α->Option R)(oN:O)(oS:R->O){body:Int->Option (Step Int O)}(hl:body (l.length:Int)=some (.out oN))
 (hs:∀(i:Nat) x,l[i]? =some x->body (i:Int)=some ((q i x).elim (.cont ((i+1:Nat):Int)) fun r=>.out (oS r))):
 iter body 0=some ((zFa q 0 l).elim oN oS):=by
 have key:∀r p,l=p++r->iter body (p.length:Int)=some ((zFa q p.length r).elim oN oS):=by
  intro r;induction r with
  | nil=>
   intro p h;have:p=l:=by simp[h]
   subst this;exact zGa hl
  | cons x r ih=>
   intro p h;have hx:=hs p.length x (by simp[h]);unfold zFa;cases hq:q p.length x with
   | some y=>rw[hq]at hx;exact zGa hx
   | none=>
    rw[hq]at hx;rw[zNa hx];have:=ih (p++ [x]) (by simp[h]);simpa using this
 exact key l [] rfl
theorem Kxa(l:List α)(enc:Int->S->A)(f:Nat->S->α->S)(out:S->O)(Inv:Nat->S->Prop){body:A->Option (Step A O)}
 (hl:∀s,Inv l.length s->body (enc l.length s)=some (.out (out s)))
 (hs:∀(i:Nat) x s,l[i]? =some x->Inv i s->body (enc i s)=some (.cont (enc ((i+1:Nat):Int) (f i s x)))/\Inv (i+1) (f i s x)) (s:S) (h0:Inv 0 s):
 ∃t,iter body (enc 0 s)=some (out t)/\Inv l.length t/\t=(l.zipIdx.foldl (fun s p=>f p.2 s p.1) s):=by
 have key:∀r p s,l=p++r->Inv p.length s->∃t,iter body (enc (p.length:Int) s)=some (out t)/\Inv l.length t/\t=((r.zipIdx p.length).foldl (fun s p=>f p.2 s p.1) s):=by
  intro r;induction r with
  | nil=>
   intro p s h hi;have:p=l:=by simp[h]
   subst this;exact ⟨s,zGa (hl s hi),hi,rfl⟩
  | cons x r ih=>
   intro p s h hi;obtain ⟨h1,h2⟩:=hs p.length x s (by simp[h]) hi;rw[zNa h1];obtain ⟨t,h3,h4,h5⟩:=ih (p++ [x]) (f p.length s x) (by simp[h]) (by simpa using h2);refine ⟨t,by simpa using h3,h4,?_⟩;rw[h5];simp
 exact key l [] s rfl h0
theorem kwb(f:S->α->S)(l:List α):∀(n:Nat) (s:S),(l.zipIdx n).foldl (fun s p=>f s p.1) s=l.foldl f s:=by
 induction l with
 | nil=>intro n s;rfl
 | cons x r ih=>intro n s;simp[ih]
theorem yYa(l:List α)(enc:Int->S->A)(f:S->α->S)(out:S->O)(Inv:Nat->S->Prop){body:A->Option (Step A O)}
 (hl:∀s,Inv l.length s->body (enc l.length s)=some (.out (out s)))
 (hs:∀(i:Nat) x s,l[i]? =some x->Inv i s->body (enc i s)=some (.cont (enc ((i+1:Nat):Int) (f s x)))/\Inv (i+1) (f s x)) (s:S) (h0:Inv 0 s):
 iter body (enc 0 s)=some (out (l.foldl f s))/\Inv l.length (l.foldl f s):=by
 obtain ⟨t,h1,h2,h3⟩:=Kxa l enc (fun _=>f) out Inv hl hs s h0;have:t=l.foldl f s:=by rw[h3];exact kwb f l 0 s
 subst this;exact ⟨h1,h2⟩
theorem j1a(c:α->Bool)(r:R)(l:List α)(n:Nat):zFa (fun _ x=>if c x then some r else none) n l=if l.any c then some r else none:=by
 induction l generalizing n with
 | nil=>rfl
 | cons x l ih=>unfold zFa;cases h:c x <;> simp[h,ih]
theorem v6a{q:Nat->α->Option R}{l:List α}{n:Nat}:zFa q n l=none↔∀(i:Nat) x,l[i]? =some x->q (n+i) x=none:=by
 induction l generalizing n with
 | nil=>simp[zFa]
 | cons x l ih=>
  unfold zFa;cases h:q n x with
  | some y=>
   simp only[reduceCtorEq,false_iff];intro hh;have:=hh 0 x rfl;rw[Nat.add_zero,h]at this;cases this
  | none=>
   rw[ih];constructor
   .intro hh i y hy;cases i with
    | zero=>simp at hy;subst hy;exact h
    | succ i=>rw[show n+(i+1)=n+1+i by omega];exact hh i y (by simpa using hy)
   intro hh i y hy;rw[show n+1+i=n+(i+1) by omega];exact hh (i+1) y (by simpa using hy)
theorem Zqa{q:Nat->α->Option R}{l:List α}{n:Nat}{r:R}(h:zFa q n l=some r):∃(i:Nat) (x:α),l[i]? =some x/\q (n+i) x=some r:=by
 induction l generalizing n with
 | nil=>cases h
 | cons x l ih=>
  unfold zFa at h;cases hq:q n x with
  | some y=>rw[hq]at h;cases h;exact ⟨0,x,rfl,hq⟩
  | none=>
   rw[hq]at h;obtain ⟨i,y,h1,h2⟩:=ih h;exact ⟨i+1,y,by simpa using h1,by rw[show n+(i+1)=n+1+i by omega];exact h2⟩
theorem zUa{l:List α}{i:Nat}{x:α}(h:l[i]? =some x):i < l.length:=(List.getElem?_eq_some_iff.1 h).1
theorem kqa{l:List α}{i:Nat}{x:α}(h:l[i]? =some x):decide ((i:Int) < (l.length:Int))=true:=by have:=zUa h;simp;omega
theorem zRa(l:List α):decide ((l.length:Int) < (l.length:Int))=false:=by simp
theorem zJa{l:List α}{i:Nat}{x:α}(h:l[i]? =some x):idx l (i:Int)=some x:=by rw[v5a];exact h
end
end
def W9a(c:UInt8):Bool:=(decide (97<=c) && decide (c<=122)) || (decide (65<=c) && decide (c<=90)) || (decide (48<=c) && decide (c<=57))
def ywa(c:UInt8):Bool:=(decide (97<=c) && decide (c<=122)) || (decide (48<=c) && decide (c<=57)) || c==45 || c==46
def Wma(c:UInt8):Bool:=W9a c || c==45 || c==95 || c==46 || c==43 || c==61
def ZEa:Bool->Str->Bool
 | p,[]=> !p
 | p,c::r=>if c=46 then !p && ZEa true r else ZEa false r
def domP(s:Str):Bool:=decide (s.length<=60) && s.all ywa && ZEa true s
def atP(s:Str):Nat:=s.findIdx (· ==64)
def kGa(s:Str):Bool:=decide (atP s < s.length) && decide (1<=atP s) && decide (atP s<=60) && (s.take (atP s)).all Wma && domP (s.drop (atP s+1))
theorem jia(k:Nat)(c:UInt8)(hk:OfNat.ofNat k < 256):decide ((no_index (OfNat.ofNat k:Int))<=(c.toNat:Int))=decide ((OfNat.ofNat k:UInt8)<=c):=by
 have e:(OfNat.ofNat k:Int)=((OfNat.ofNat k:Nat):Int):=rfl;have h2:(OfNat.ofNat k:UInt8).toNat=(OfNat.ofNat k:Nat):=by
  show (UInt8.ofNat k).toNat=k;rw[UInt8.toNat_ofNat'];exact Nat.mod_eq_of_lt hk
 rw[Bool.eq_iff_iff,decide_eq_true_eq,decide_eq_true_eq,UInt8.le_iff_toNat_le,h2,e];omega
theorem jja(k:Nat)(c:UInt8)(hk:OfNat.ofNat k < 256):decide ((c.toNat:Int)<=(no_index (OfNat.ofNat k:Int)))=decide (c<=(OfNat.ofNat k:UInt8)):=by
 have e:(OfNat.ofNat k:Int)=((OfNat.ofNat k:Nat):Int):=rfl;have h2:(OfNat.ofNat k:UInt8).toNat=(OfNat.ofNat k:Nat):=by
  show (UInt8.ofNat k).toNat=k;rw[UInt8.toNat_ofNat'];exact Nat.mod_eq_of_lt hk
 rw[Bool.eq_iff_iff,decide_eq_true_eq,decide_eq_true_eq,UInt8.le_iff_toNat_le,h2,e];omega
theorem vka(a b c:Int):R_In a b c=some (decide (b<=a) && decide (a<=c)):=by
 unfold R_In;cases decide (b<=a) <;> rfl
theorem jka(c:UInt8):qta c=some (W9a c):=by
 unfold qta W9a;simp only[vka,Option.bind_some,jia 97 c (by decide),jja 122 c (by decide),jia 65 c (by decide),jja 90 c (by decide),jia 48 c (by decide),jja 57 c (by decide)];generalize (decide ((97:UInt8)<=c) && decide (c<=122))=x;generalize (decide ((65:UInt8)<=c) && decide (c<=90))=y;cases x <;> cases y <;> simp
theorem Z9a(c:UInt8):waa c=some (W9a c):=by
 unfold waa W9a;simp only[jia 97 c (by decide),jja 122 c (by decide),jia 65 c (by decide),jja 90 c (by decide),jia 48 c (by decide),jja 57 c (by decide)];cases decide ((97:UInt8)<=c) <;> cases decide (c<=122) <;> cases decide ((65:UInt8)<=c) <;> cases decide (c<=90) <;> cases decide ((48:UInt8)<=c) <;> cases decide (c<=57) <;> rfl
def yqa(s:Str)(i:Nat):Bool:=if i=0 then true else s[i - 1]? ==some 46
def wRa:Bool->Str->Bool
 | _,[]=>true
 | p,c::r=>if c=46 then !p && !r.isEmpty && wRa true r else ywa c && wRa false r
theorem kxb(p:Bool)(c:UInt8)(r:Str):wRa p (c::r)=if c=46 then !p && !r.isEmpty && wRa true r else ywa c && wRa false r:=rfl
theorem wWb(s:Str)(p:Bool)(h:s≠ []∨p=false):wRa p s=(s.all ywa && ZEa p s):=by
 induction s generalizing p with
 | nil=>simp[wRa,ZEa];rcases h with h | h <;> simp_all
 | cons c r ih=>
  unfold wRa ZEa;by_cases hc:c=46
  .subst hc;simp only[if_true,List.all_cons,show ywa 46=true by decide,Bool.true_and];cases r with
   | nil=>simp[ZEa]
   | cons d r=>
    rw[ih true (.inl (by simp))];cases p <;> simp
  rw[if_neg hc,if_neg hc];rw[ih false (.inr rfl),List.all_cons,Bool.and_assoc]
theorem Yaa(s:Str)(hs:s.length<=9223372036854775806):iter (qIa s) 0=some (if wRa true s then .inl () else .inr false):=by
 have:=jqb (body:=qIa s) s (fun i (_:Unit)=>(i:Int)) (fun i r _=>if wRa (yqa s i) r then .inl () else .inr false) (fun _=>by
  unfold qIa;rw[zRa];simp[wRa]) (fun p c r _ h=>?_) (s0:=0) () rfl
 .simpa[yqa]using this
 have hc:s[p.length]? =some c:=by simp[h]
 have hidx:=zJa hc;have hlen:s.length=p.length+r.length+1:=by rw[h];simp;omega
 have e1:w64 ((s.length:Int) - 1)=((s.length - 1:Nat):Int):=by rw[qsa (by omega) (by omega)];omega
 have e2:w64 ((p.length:Int)+1)=((p.length+1:Nat):Int):=by rw[show ((p.length:Int)+1)=((p.length+1:Nat):Int) by omega,ZHa _ (by omega)]
 have hbody:qIa s (p.length:Int)=some (if c=46 then (if yqa s p.length || r.isEmpty then .out (.inr false) else .cont ((p.length+1:Nat):Int)) else if ywa c then .cont ((p.length+1:Nat):Int) else .out (.inr false)):=by
  unfold qIa;rw[kqa hc,hidx];simp only[cond_true,Option.bind_some,vka,qEa c 46 (by decide),ZIa c 45 (by decide),ZIa c 46 (by decide),jia 97 c (by decide),jja 122 c (by decide),jia 48 c (by decide),jja 57 c (by decide),e1,e2];by_cases h46:c=46
  .subst h46;have hsm:(!(decide ((97:UInt8)<=46) && decide ((46:UInt8)<=122)))=true:=by decide
   have hsm2:(!(decide ((48:UInt8)<=46) && decide ((46:UInt8)<=57)))=true:=by decide
   simp only[beq_self_eq_true,cond_true,hsm,hsm2,if_true,bne_self_eq_false];by_cases h0:p.length=0
   .simp[h0,yqa]
   have h0' :((p.length:Int)==0)=false:=by rw[beq_eq_false_iff_ne];omega
   by_cases hl:r=[]
   .subst hl;have:((p.length:Int)==((s.length - 1:Nat):Int))=true:=by rw[hlen];simp
    simp[h0',this]
   have hr:r.isEmpty=false:=by simpa using hl
   have hrl:0 < r.length:=List.length_pos_iff.2 hl;have:((p.length:Int)==((s.length - 1:Nat):Int))=false:=by rw[hlen];simp;omega
   have e3:w64 ((p.length:Int) - 1)=((p.length - 1:Nat):Int):=by rw[qsa (by omega) (by omega)];omega
   have hlt:p.length - 1 < s.length:=by omega
   simp only[h0',this,cond_false,e3,K0a hlt,Option.bind_some,hr,Bool.or_false,yqa,if_neg h0,List.getElem?_eq_getElem hlt];rw[qEa _ 46 (by decide)];by_cases hd:s[p.length - 1]=46
   .simp[hd]
   have:(s[p.length - 1]==46)=false:=by simpa using hd
   simp[this,hd]
  have h1:(c==46)=false:=by simpa using h46
  have h2:(c !=46)=true:=by simpa using h46
  simp only[h1,cond_false,if_neg h46,Option.bind_some,ywa,h2];by_cases ha:(decide ((97:UInt8)<=c) && decide (c<=122))=true
  .simp[ha]
  have ha:(decide ((97:UInt8)<=c) && decide (c<=122))=false:=by simpa using ha
  by_cases hb:(decide ((48:UInt8)<=c) && decide (c<=57))=true
  .simp[ha,hb]
  have hb:(decide ((48:UInt8)<=c) && decide (c<=57))=false:=by simpa using hb
  by_cases h45:c=45
  .subst h45;simp[ha,hb]
  have:(c==45)=false:=by simpa using h45
  simp[ha,hb,this,bne]
 have hp1:yqa s (p.length+1)=decide (c=46):=by
  unfold yqa;simp only[Nat.add_sub_cancel,Nat.add_one_ne_zero,if_false,hc];rw[Bool.eq_iff_iff];simp
 rw[hbody];rw[kxb];by_cases h46:c=46
 .subst h46;simp only[if_true];cases hq:(yqa s p.length || r.isEmpty) with
  | true=>
   left;simp only[if_true];have:(!yqa s p.length && !r.isEmpty && wRa true r)=false:=by
    cases hp:yqa s p.length <;> simp_all
   rw[this];rfl
  | false=>
   right;refine ⟨(),rfl,?_⟩;have h3:yqa s p.length=false:=by cases hp:yqa s p.length <;> simp_all
   have h4:r.isEmpty=false:=by cases hp:r.isEmpty <;> simp_all
   rw[h3,h4,hp1];simp
 simp only[if_neg h46];cases hq:ywa c with
 | true=>right;exact ⟨(),rfl,by rw[hp1];simp[h46]⟩
 | false=>left;simp
theorem zub(s:Str)(hs:s.length<=9223372036854775806):jTa s=some (domP s):=by
 unfold jTa;rw[Yaa s hs];by_cases hn:s=[]
 .subst hn;simp[wRa,vka,domP,ZEa]
 rw[wWb s true (.inl hn)];have hpos:0 < s.length:=List.length_pos_iff.2 hn;unfold domP;cases h:(s.all ywa && ZEa true s) with
 | false=>
  rw[Bool.and_assoc,h];simp
 | true=>
  rw[Bool.and_assoc,h];simp only[if_true,Option.bind_some,vka,Bool.and_true,Sum.elim_inl,Option.some.injEq];rw[Bool.eq_iff_iff];simp;omega
theorem jrb(s:Str)(hs:s.length<=9223372036854775806):krb s=some ((atP s:Nat):Int):=by
 unfold krb;rw[zQa s (fun i c=>if c==64 then some (i:Int) else none) (.inl ()) .inr]
 .simp only[Option.bind_some];have key:∀(r:Str) (n:Nat),(zFa (fun i (c:UInt8)=>if c==64 then some (i:Int) else none) n r).getD ((n+r.length:Nat):Int)=((n+r.findIdx (· ==64):Nat):Int):=by
   intro r;induction r with
   | nil=>intro n;simp[zFa]
   | cons c r ih=>
    intro n;unfold zFa;rw[List.findIdx_cons];cases hc:(c==64) with
    | true=>simp
    | false=>
     simp only[Bool.false_eq_true,if_false,cond_false];have:=ih (n+1);rw[show n+(c::r).length=n+1+r.length by simp;omega,show n+(r.findIdx (· ==64)+1)=n+1+r.findIdx (· ==64) by omega];exact this
  have:=key s 0;rw[Nat.zero_add,Nat.zero_add]at this;unfold atP;rw[<-this];cases zFa (fun i (c:UInt8)=>if c==64 then some (i:Int) else none) 0 s <;> rfl
 .unfold QUa;rw[zRa];rfl
 intro i c hc;unfold QUa;have hi:=zUa hc;rw[kqa hc,zJa hc];simp only[cond_true,Option.bind_some,qEa c 64 (by decide)];cases c==64 with
 | true=>rfl
 | false=>
  simp only[cond_false,Bool.false_eq_true,if_false];rw[show ((i:Int)+1)=((i+1:Nat):Int) by omega,ZHa _ (by omega)];rfl
theorem jza(s:Str)(hs:s.length<=9223372036854775806):qJa s=some (kGa s):=by
 have hat:atP s<=s.length:=List.findIdx_le_length;unfold qJa;rw[jrb s hs];simp only[Option.bind_some];have hloop:iter (vIa s (atP s:Int)) 0=some ((zFa (fun _ c=>if !Wma c then some false else none) 0 (s.take (atP s))).elim (.inl ()) .inr):=by
  refine zQa (s.take (atP s)) _ (Sum.inl ()) Sum.inr ?_ ?_
  .have:((s.take (atP s)).length:Int)=(atP s:Int):=by simp;omega
   unfold vIa;rw[this];simp
  intro i c hc;have hi:=zUa hc;simp at hi;have hc2:s[i]? =some c:=by rw[List.getElem?_take_of_lt (by omega)]at hc;exact hc
  unfold vIa;have:decide ((i:Int) < (atP s:Int))=true:=by simp;omega
  rw[this,zJa hc2];simp only[cond_true,Option.bind_some,jka,ZIa c 45 (by decide),ZIa c 95 (by decide),ZIa c 46 (by decide),ZIa c 43 (by decide),ZIa c 61 (by decide)];rw[show ((i:Int)+1)=((i+1:Nat):Int) by omega,ZHa _ (by omega)];unfold Wma;cases W9a c <;> cases h1:(c==45) <;> cases h2:(c==95) <;> cases h3:(c==46) <;> cases h4:(c==43) <;> cases h5:(c==61) <;> simp[bne,h1,h2,h3,h4,h5]
 rw[hloop,j1a];unfold kGa;have hall:(s.take (atP s)).any (fun c=> !Wma c)= !((s.take (atP s)).all Wma):=by simp[List.not_all_eq_any_not]
 rw[hall];cases hg:(s.take (atP s)).all Wma with
 | false=>simp
 | true=>
  simp only[Bool.not_true,Bool.false_eq_true,if_false,Option.bind_some,vka,Bool.and_true];by_cases h1:1<=atP s/\atP s<=60
  .have e1:(decide ((1:Int)<=(atP s:Int)) && decide ((atP s:Int)<=60))=true:=by simp;omega
   rw[e1];by_cases h2:atP s < s.length
   .have e2:decide ((atP s:Int) < (s.length:Int))=true:=by simp;omega
    rw[e2];simp only[cond_true];rw[show ((atP s:Int)+1)=((atP s+1:Nat):Int) by omega,ZHa _ (by omega),yXa (by omega)];simp only[Option.bind_some];rw[zub _ (by simp;omega)];simp[h1,h2]
   have e2:decide ((atP s:Int) < (s.length:Int))=false:=by simp;omega
   rw[e2];simp[h2]
  have e1:(decide ((1:Int)<=(atP s:Int)) && decide ((atP s:Int)<=60))=false:=by
   rw[Bool.eq_false_iff];simp;omega
  rw[e1];simp only[cond_false,Option.bind_some]
  congr 1
  symm
  rcases Nat.lt_or_ge (atP s) 1 with h | h
  .have:decide (1<=atP s)=false:=by simp;omega
   rw[this];simp
  have:decide (atP s<=60)=false:=by simp;omega
  rw[this];simp
theorem zvb(s:Str):∀p,ZEa p s=(!(p && (s.isEmpty || s.head? ==some 46)) && !(s.getLast? ==some 46) && !Lib.contains s [46,46]):=by
 induction s with
 | nil=>intro p;cases p <;> simp[ZEa,Lib.contains,Lib.index]
 | cons c r ih=>
  intro p;have hcont:Lib.contains (c::r) [46,46]=((c==46 && r.head? ==some 46) || Lib.contains r [46,46]):=by
   unfold Lib.contains;rw[Lib.index];have hpre:([46,46]:List UInt8).isPrefixOf (c::r)=(c==46 && r.head? ==some 46):=by
    cases r with
    | nil=>simp[List.isPrefixOf]
    | cons d r=>simp only[List.isPrefixOf,List.head?_cons,Bool.and_true];rw[Bool.eq_iff_iff];simp;constructor <;> rintro ⟨rfl,rfl⟩ <;> exact ⟨rfl,rfl⟩
   rw[hpre];have hg:=Lib.index_ge r [46,46];cases c==46 && r.head? ==some 46 with
   | true=>simp
   | false=>
    simp only[Bool.false_eq_true,if_false,Bool.false_or];by_cases h:Lib.index r [46,46]= -1
    .simp[h]
    have:(Lib.index r [46,46]== -1)=false:=by simpa using h
    rw[this];simp only[Bool.false_eq_true,if_false];rw[Bool.eq_iff_iff];simp;omega
  rw[hcont,ZEa];have hlast:(c::r).getLast? =if r.isEmpty then some c else r.getLast? :=by cases r <;> simp
  rw[hlast];by_cases hc:c=46
  .subst hc;rw[if_pos rfl,ih true];cases r with
   | nil=>simp
   | cons d r=>cases p <;> cases hd:(d==46) <;> simp_all [Bool.and_comm,Bool.and_assoc,Bool.and_left_comm]
  have h1:(c==46)=false:=by simpa using hc
  have h2:(some c==some (46:UInt8))=false:=by simpa using hc
  rw[if_neg hc,ih false];cases r with
  | nil=>simp[h1,h2,Lib.contains,Lib.index,hc]
  | cons d r=>simp[h1,h2,hc]
theorem KEa(s t:Str):kDa s t=some (t.isPrefixOf s):=by
 unfold kDa z9a;by_cases h:t.length<=s.length
 .have:decide ((t.length:Int)<=(s.length:Int))=true:=by simp;omega
  rw[this,j0a h];simp only[cond_true,Option.bind_some,Option.some.injEq];rw[Bool.eq_iff_iff,beq_iff_eq,List.isPrefixOf_iff_prefix,List.prefix_iff_eq_take];constructor <;> exact fun h=>h.symm
 have:decide ((t.length:Int)<=(s.length:Int))=false:=by simp;omega
 rw[this];simp only[cond_false,Option.bind_some,Option.some.injEq]
 symm
 rw[Bool.eq_false_iff];intro hp;exact h (List.isPrefixOf_iff_prefix.1 hp).length_le
theorem KFa(s t:Str)(hs:s.length<=9223372036854775806):kEa s t=some (t.isSuffixOf s):=by
 unfold kEa kaa;by_cases h:t.length<=s.length
 .have:decide ((t.length:Int)<=(s.length:Int))=true:=by simp;omega
  rw[this,job _ _ h (by omega),yXa (by omega)];simp only[cond_true,Option.bind_some,Option.some.injEq];rw[Bool.eq_iff_iff,beq_iff_eq,List.isSuffixOf_iff_suffix,List.suffix_iff_eq_drop];constructor <;> exact fun h=>h.symm
 have:decide ((t.length:Int)<=(s.length:Int))=false:=by simp;omega
 rw[this];simp only[cond_false,Option.bind_some,Option.some.injEq]
 symm
 rw[Bool.eq_false_iff];intro hp;exact h (List.isSuffixOf_iff_suffix.1 hp).length_le
theorem dom_char(c:UInt8):((bif decide ((97:UInt8)<=c) then (bif decide (c<=122) then some true else (bif decide ((48:UInt8)<=c) then (bif decide (c<=57) then some true else (bif (c==45) then some true else some (c==46))) else (bif (c==45) then some true else some (c==46)))) else (bif decide ((48:UInt8)<=c) then (bif decide (c<=57) then some true else (bif (c==45) then some true else some (c==46))) else (bif (c==45) then some true else some (c==46)))):Option Bool)=some (ywa c):=by
 unfold ywa;cases decide ((97:UInt8)<=c) <;> cases decide (c<=122) <;> cases decide ((48:UInt8)<=c) <;> cases decide (c<=57) <;> cases (c==45) <;> rfl
theorem QWa(s:Str)(hs:s.length < 4294967281):vea s=some (domP s):=by
 have hloop:iter (qda s) 0=some ((zFa (fun _ c=>if !ywa c then some () else none) 0 s).elim (.inl ()) .inr):=by
  refine zQa s _ (Sum.inl ()) Sum.inr ?_ ?_
  .unfold qda;rw[zRa];rfl
  intro i c hc;have hi:=zUa hc;unfold qda;rw[kqa hc,zJa hc];simp only[cond_true,Option.bind_some,qEa c 45 (by decide),qEa c 46 (by decide),jia 97 c (by decide),jja 122 c (by decide),jia 48 c (by decide),jja 57 c (by decide),dom_char];rw[show ((i:Int)+1)=((i+1:Nat):Int) by omega,ZHa _ (by omega)];cases ywa c <;> rfl
 unfold vea domP;rw[hloop,j1a,zvb];by_cases hn:s=[]
 .subst hn;simp
 have h1:(s !=([]:Str))=true:=by simpa using hn
 rw[h1];simp only[cond_true];by_cases hl:s.length<=60
 .have h2:decide ((s.length:Int)<=60)=true:=by simp;omega
  rw[h2];have hall:s.any (fun c=> !ywa c)= !(s.all ywa):=by simp[List.not_all_eq_any_not]
  rw[hall];cases hg:s.all ywa with
  | false=>simp[hl]
  | true=>
   simp only[Bool.not_true,Bool.false_eq_true,if_false,Option.elim,Option.bind_some,cond_true,KEa,KFa s [46] (by omega),kPa,if_pos hs];have hp:([46]:Str).isPrefixOf s=(s.head? ==some 46):=by
    cases s with
    | nil=>rfl
    | cons d r=>simp only[List.isPrefixOf,List.head?_cons,Bool.and_true];rw[Bool.eq_iff_iff];simp;exact ⟨fun h=>h.symm,fun h=>h.symm⟩
   have hsf:([46]:Str).isSuffixOf s=(s.getLast? ==some 46):=by
    rw[Bool.eq_iff_iff,List.isSuffixOf_iff_suffix,beq_iff_eq];constructor
    .rintro ⟨t,rfl⟩;simp
    intro h;obtain ⟨ys,rfl⟩:=List.getLast?_eq_some_iff.1 h;exact ⟨ys,rfl⟩
   have he:s.isEmpty=false:=by simpa using hn
   rw[hp,hsf,he];cases s.head? ==some 46 <;> cases s.getLast? ==some 46 <;> cases Lib.contains s [46,46] <;> simp[hl]
 have h2:decide ((s.length:Int)<=60)=false:=by simp;omega
 rw[h2];simp[hl]
theorem zwb(s:Str):Lib.index s [64]=if atP s < s.length then (atP s:Int) else -1:=by
 rw[Lib.index_one];unfold atP;induction s with
 | nil=>rfl
 | cons c r ih=>
  rw[Lib.indexByte,List.findIdx_cons];cases hc:(c==64) with
  | true=>simp
  | false=>
   simp only[Bool.false_eq_true,if_false,cond_false,List.length_cons];rw[ih];by_cases h:r.findIdx (· ==64) < r.length
   .simp only[if_pos h,if_pos (show r.findIdx (· ==64)+1 < r.length+1 by omega)];have:(((r.findIdx (· ==64):Nat):Int)== -1)=false:=by rw[beq_eq_false_iff_ne];omega
    rw[this];simp
   simp only[if_neg h,if_neg (show ¬(r.findIdx (· ==64)+1 < r.length+1) by omega)];simp
theorem cut_at(s:Str):Lib.cut s [64]=if atP s < s.length then (s.take (atP s),s.drop (atP s+1),true) else (s,[],false):=by
 unfold Lib.cut;rw[zwb];by_cases h:atP s < s.length
 .rw[if_pos h,if_pos h,if_pos (by omega)];simp
 rw[if_neg h,if_neg h,if_neg (by omega)]
def v0b(s:Str):Str × Str × Bool:=if atP s < s.length then (s.take (atP s),s.drop (atP s+1),kGa s) else (s,[],false)
theorem jsb(c:UInt8):(W9a c || decide (0<=Lib.indexByte [45,95,46,43,61] c))=Wma c:=by
 unfold Wma;by_cases h1:c=45
 .subst h1;decide
 by_cases h2:c=95
 .subst h2;decide
 by_cases h3:c=46
 .subst h3;decide
 by_cases h4:c=43
 .subst h4;decide
 by_cases h5:c=61
 .subst h5;decide
 rw[beq_eq_false_iff_ne.2 h1,beq_eq_false_iff_ne.2 h2,beq_eq_false_iff_ne.2 h3,beq_eq_false_iff_ne.2 h4,beq_eq_false_iff_ne.2 h5];simp[Lib.indexByte,Ne.symm h1,Ne.symm h2,Ne.symm h3,Ne.symm h4,Ne.symm h5]
theorem VIa(s:Str)(hs:s.length < 4294967281):vJa s=some (v0b s):=by
 have hloop:∀v:Str × Str × Bool,v.1.length < 4294967281->iter (qua v) 0=some ((zFa (fun _ c=>if !Wma c then some () else none) 0 v.1).elim (.inl ()) .inr):=by
  intro v hv;refine zQa v.1 _ (Sum.inl ()) Sum.inr ?_ ?_
  .unfold qua;rw[zRa];rfl
  intro i c hc;have hi:=zUa hc;unfold qua;rw[kqa hc,zJa hc];simp only[cond_true,Option.bind_some,Z9a,zXa];rw[show ((i:Int)+1)=((i+1:Nat):Int) by omega,ZHa _ (by omega)];have hg:=jsb c;cases hl:W9a c with
  | true=>rw[hl]at hg;simp only[Bool.true_or]at hg;rw[<-hg];rfl
  | false=>rw[hl]at hg;simp only[Bool.false_or]at hg;rw[<-hg];cases decide (0<=Lib.indexByte [45,95,46,43,61] c) <;> rfl
 unfold vJa qKa;rw[if_pos hs,cut_at];simp only[Option.bind_some];unfold v0b;by_cases h:atP s < s.length
 .simp only[if_pos h,cond_true];rw[hloop _ (by simp;omega),j1a];have hall:(s.take (atP s)).any (fun c=> !Wma c)= !((s.take (atP s)).all Wma):=by simp[List.not_all_eq_any_not]
  simp only[hall];have hlen:(s.take (atP s)).length=atP s:=by simp;omega
  rw[hlen,QWa _ (by simp;omega)];unfold kGa;by_cases h0:atP s=0
  .simp[h0]
  have hne:(s.take (atP s) !=([]:Str))=true:=by
   simp only[bne_iff_ne,ne_eq];intro hx;have:=congrArg List.length hx;rw[hlen]at this;simp at this;omega
  rw[hne];by_cases h60:atP s<=60
  .have e:decide ((atP s:Int)<=60)=true:=by simp;omega
   rw[e];cases (s.take (atP s)).all Wma <;> simp[h,h60] <;> omega
  have e:decide ((atP s:Int)<=60)=false:=by simp;omega
  rw[e];simp[h60]
 simp[if_neg h]
theorem q3b(s:Str):(v0b s).2.2=kGa s:=by
 unfold v0b;by_cases h:atP s < s.length
 .rw[if_pos h]
 rw[if_neg h];unfold kGa;simp[h]
theorem qNa(s:Str)(hs:s.length < 4294967281):kua s=some (kGa s):=by
 unfold kua;rw[VIa s hs];simp[q3b]
theorem kyb(a b:List Str)(ha:a.length<=9223372036854775806):Z3a a b=some (a==b):=by
 unfold Z3a;by_cases hlen:a.length=b.length
 .have h1:((a.length:Int) !=(b.length:Int))=false:=by rw[hlen];simp
  rw[h1];simp only[cond_false];rw[zQa a (fun i x=>if b[i]? !=some x then some false else none) (.inl ()) .inr]
  .simp only[Option.bind_some];cases hf:zFa (fun i x=>if b[i]? !=some x then some false else none) 0 a with
   | none=>
    rw[v6a]at hf;have:a=b:=by
     apply List.ext_getElem?;intro i;by_cases hi:i < a.length
     .have:=hf i a[i] (List.getElem?_eq_getElem hi);rw[Nat.zero_add]at this;rw[List.getElem?_eq_getElem hi];simp at this;exact this.symm
     rw[List.getElem?_eq_none (by omega),List.getElem?_eq_none (by omega)]
    subst this;simp
   | some r=>
    obtain ⟨i,x,hx,hq⟩:=Zqa hf;rw[Nat.zero_add]at hq;split at hq
    .cases hq;rename_i hne;have:(a==b)=false:=by
      rw[beq_eq_false_iff_ne];rintro rfl;rw[hx]at hne;simp at hne
     rw[this];rfl
    cases hq
  .unfold jea;rw[zRa];rfl
  intro i x hx;have hi:=zUa hx;unfold jea;have hib:i < b.length:=by omega
  rw[kqa hx,zJa hx,K0a hib,List.getElem?_eq_getElem hib];simp only[cond_true,Option.bind_some];rw[show ((i:Int)+1)=((i+1:Nat):Int) by omega,ZHa _ (by omega)];by_cases hxb:x=b[i]
  .subst hxb;simp
  have e1:(x !=b[i])=true:=by simpa using hxb
  have e2:(some b[i] !=some x)=true:=by simp;exact fun h=>hxb h.symm
  rw[e1,e2];rfl
 have h1:((a.length:Int) !=(b.length:Int))=true:=by simp;omega
 rw[h1];simp only[cond_true];have:(a==b)=false:=by rw[beq_eq_false_iff_ne];rintro rfl;exact hlen rfl
 rw[this]
section
theorem kzb{α:Type}(c:α->Bool)(l:List α):∀n:Nat,decide ((0:Int)<=(zFa (fun i x=>if c x then some ((i:Nat):Int) else none) n l).getD (-1))=l.any c:=by
 induction l with
 | nil=>intro n;rfl
 | cons x l ih=>
  intro n;unfold zFa;cases hc:c x with
  | true=>simp[hc]
  | false=>simp only[Bool.false_eq_true,if_false,List.any_cons,hc,Bool.false_or];exact ih (n+1)
theorem v1b(o:Option Int):Sum.elim (fun _=>some (-1)) (fun b=>some b) (o.elim (Sum.inl ()) Sum.inr:Unit ⊕ Int)=some (o.getD (-1)):=by cases o <;> rfl
theorem sc(i:Nat)(h:i < 9223372036854775807):w64 ((i:Int)+1)=((i+1:Nat):Int):=by rw[show ((i:Int)+1)=((i+1:Nat):Int) by omega,ZHa _ (by omega)]
theorem bkL_pos{T:Type}(bk:T->Nat)(l:List T):1<=bkL bk l:=by
 induction l with
 | nil=>simp[bkL]
 | cons y l ih=>unfold bkL;omega
theorem jtb{T:Type}{bk:T->Nat}{l:List T}{x:T}(h:x∈l):bk x+1<=bkL bk l:=by
 induction l with
 | nil=>cases h
 | cons y l ih=>
  unfold bkL;have hp:=bkL_pos bk l;rcases List.mem_cons.1 h with rfl | h
  .omega
  have:=ih h;omega
theorem q4b{T:Type}{bk:T->Nat}(hb:∀x,1<=bk x)(l:List T):l.length+1<=bkL bk l:=by
 induction l with
 | nil=>simp[bkL]
 | cons y l ih=>unfold bkL;have:=hb y;simp;omega
section
variable {α:Type}
end
theorem wXb{V:Type}(m:List (Str × V))(k:Str)(v:V)(x:Str):mget (mput m k v) x=if k==x then some v else mget m x:=by
 induction m with
 | nil=>rfl
 | cons p m ih=>
  obtain ⟨k',v'⟩:=p;unfold mput;by_cases h:k' =k
  .subst h;simp only[beq_self_eq_true,if_true,mget];cases k' ==x <;> simp
  have h1:(k' ==k)=false:=by simpa using h
  rw[h1];simp only[Bool.false_eq_true,if_false,mget];rw[ih];by_cases h2:k' =x
  .subst h2;have:(k==k')=false:=by simpa using fun h' =>h h'.symm
   simp[this]
  have:(k' ==x)=false:=by simpa using h2
  rw[this];simp
section
variable {α A S O:Type}
theorem zxb(l:List α)(enc:Int->S->A)(f:S->α->S)(out:S->O)(Inv:Nat->S->Prop){body:A->Option (Step A O)}
 (hl:∀s,Inv l.length s->body (enc l.length s)=some (.out (out s)))
 (hs:∀(i:Nat) x s,l[i]? =some x->Inv i s->body (enc i s)=some (.cont (enc ((i+1:Nat):Int) (f s x)))/\Inv (i+1) (f s x)):
 ∀(r p:List α) (s:S),l=p++r->Inv p.length s->iter body (enc (p.length:Int) s)=some (out (r.foldl f s)):=by
 intro r;induction r with
 | nil=>
  intro p s h hi;have:p=l:=by simp[h]
  subst this;exact zGa (hl s hi)
 | cons x r ih=>
  intro p s h hi;obtain ⟨h1,h2⟩:=hs p.length x s (by simp[h]) hi;rw[zNa h1];have:=ih (p++ [x]) (f s x) (by simp[h]) (by simpa using h2);simpa using this
end
end
theorem K1a(o:Option Unit)(a b:Bool):Sum.elim (fun _=>some a) (fun _=>some b) (o.elim (Sum.inl ()) Sum.inr:Unit ⊕ Unit)=some (bif o.isSome then b else a):=by cases o <;> rfl
theorem Zra{α R:Type}(c:α->Bool)(r:R)(l:List α)(n:Nat):(zFa (fun _ x=>if c x then some r else none) n l).isSome=l.any c:=by
 rw[j1a];cases l.any c <;> rfl
theorem zyb{α:Type}(l:List α)(p:α->Bool):l.any (fun x=> !p x)= !l.all p:=by simp[List.not_all_eq_any_not]
theorem jAa(a b:Int):R_At a b=some ⟨a,b⟩:=rfl
theorem kra(a b:Int):zxa a b=some ⟨a,b⟩:=rfl
theorem qfa:kCa=some ⟨0,0⟩:=rfl
theorem kia(f:zva):z8a f=some (f.Code !=0):=rfl
theorem VJa(o:Option zva)(f:zva):Sum.elim (fun _=>some f) (fun b=>some b) (o.elim (Sum.inl ()) Sum.inr:Unit ⊕ zva)=some (o.getD f):=by cases o <;> rfl
def q5b(c:UInt8):Bool:=W9a c || c==45 || c==95 || c==46
def wDa(s:Str):Bool:=decide (1<=s.length) && decide (s.length<=60) && s.all q5b
theorem jub{s:Str}(h:wDa s=true):1<=s.length/\s.length<=60:=by
 unfold wDa at h;simp only[Bool.and_eq_true,decide_eq_true_eq]at h;exact ⟨h.1.1,h.1.2⟩
theorem Qwa(s:Str)(hs:s.length<=1048576):Zia s=some (wDa s):=by
 unfold Zia;rw[zQa s (fun _ c=>if !q5b c then some false else none) (.inl ()) .inr,j1a,zyb]
 .simp only[Option.bind_some,vka];unfold wDa;have e1:decide ((1:Int)<=(s.length:Int))=decide (1<=s.length):=by rw[Bool.eq_iff_iff];simp;omega
  have e2:decide ((s.length:Int)<=60)=decide (s.length<=60):=by rw[Bool.eq_iff_iff];simp;omega
  rw[<-e1,<-e2];cases s.all q5b <;> simp
 .unfold Zha;rw[zRa];rfl
 intro i c hc;have hi:=zUa hc;unfold Zha;rw[kqa hc,zJa hc];simp only[cond_true,Option.bind_some,jka,ZIa c 45 (by decide),ZIa c 95 (by decide),ZIa c 46 (by decide),sc i (by omega)];unfold q5b bne;cases W9a c <;> cases (c==45) <;> cases (c==95) <;> cases (c==46) <;> rfl
theorem QXa(s:Str)(hs:s.length<=1048576):yLa s=some (wDa s):=by
 have hloop:iter (woa s) 0=some ((zFa (fun _ c=>if !q5b c then some () else none) 0 s).elim (.inl ()) .inr):=by
  refine zQa s _ (Sum.inl ()) Sum.inr ?_ ?_
  .unfold woa;rw[zRa];rfl
  intro i c hc;have hi:=zUa hc;unfold woa;rw[kqa hc,zJa hc];simp only[cond_true,Option.bind_some,Z9a,qEa c 45 (by decide),qEa c 95 (by decide),qEa c 46 (by decide),sc i (by omega)];unfold q5b;cases W9a c <;> cases (c==45) <;> cases (c==95) <;> cases (c==46) <;> rfl
 unfold yLa wDa;rw[hloop];simp only[Option.bind_some,K1a,Zra,zyb];by_cases hn:s=[]
 .subst hn;rfl
 have h1:(s !=([]:Str))=true:=by simpa using hn
 have h2:decide (1<=s.length)=true:=by have:=List.length_pos_iff.2 hn;simp;omega
 have e2:decide ((s.length:Int)<=60)=decide (s.length<=60):=by rw[Bool.eq_iff_iff];simp;omega
 rw[h1,h2,e2];cases decide (s.length<=60) <;> cases s.all q5b <;> rfl
def kUa(n:Int):Bool:=decide (0<=n) && decide (n<=7)
def recQ(l:List zca)(i:Nat)(r:zca):Option zva:=
 if !kGa r.Address then some ⟨10,i⟩ else if !kUa r.Notify then some ⟨3,i⟩ else if (l.take i).any (fun x=>x.Address==r.Address) then some ⟨7,i⟩ else none
def recF(l:List zca):zva:=(zFa (recQ l) 0 l).getD ⟨0,0⟩
def q6b(s:Str):Bool:=s !=([]:Str) && !kGa s
def envF(e:zEa):zva:=if q6b e.From then ⟨10, -10⟩ else if decide (e.To.length < 1) || decide (60 < e.To.length) then ⟨2, -11⟩ else if e.Id !=([]:Str) && !wDa e.Id then ⟨10, -12⟩ else recF e.To
def Jta(l:List zca):Prop:=l.length<=1048576/\∀a∈l,a.Address.length<=1048576
def kAb(e:zEa):Prop:=e.From.length<=1048576/\e.Id.length<=1048576/\Jta e.To
theorem Jua(l:List zca)(s:Str)(hl:l.length<=1048576):VCa l s=some ((zFa (fun i x=>if x.Address==s then some ((i:Nat):Int) else none) 0 l).getD (-1)):=by
 unfold VCa;rw[zQa l (fun i x=>if x.Address==s then some ((i:Nat):Int) else none) (.inl ()) .inr]
 .simp only[Option.bind_some,v1b]
 .unfold Kva;rw[zRa];rfl
 intro i x hx;have hi:=zUa hx;unfold Kva;rw[kqa hx,zJa hx];simp only[cond_true,Option.bind_some,sc i (by omega)];cases x.Address==s <;> rfl
theorem wya(n:Int):k2a n=some (kUa n):=by unfold k2a kUa;cases decide (0<=n) <;> rfl
theorem v2b(l:List zca)(i:Nat)(s:Str)(hl:l.length<=1048576):decide ((0:Int)<=(zFa (fun i x=>if x.Address==s then some ((i:Nat):Int) else none) 0 (l.take i)).getD (-1))=(l.take i).any (fun x=>x.Address==s):=kzb (fun x=>x.Address==s) (l.take i) 0
theorem QYa(e:zEa)(h:kAb e):vfa e=some (envF e):=by
 obtain ⟨h1,h2,h3,h4⟩:=h;unfold vfa envF;rw[jza _ (by omega),Qwa _ h2];have hloop:iter (qea e) 0=some ((zFa (recQ e.To) 0 e.To).elim (.inl ()) .inr):=by
  refine zQa e.To _ (Sum.inl ()) Sum.inr ?_ ?_
  .unfold qea;rw[zRa];rfl
  intro i r hr;have hi:=zUa hr;have ha:=h4 r (List.mem_of_getElem? hr);unfold qea recQ;rw[kqa hr,zJa hr];simp only[cond_true,Option.bind_some,jza _ (show r.Address.length<=9223372036854775806 by omega),jAa,vka,j0a (Nat.le_of_lt hi),Jua _ _ (show (e.To.take i).length<=1048576 by simp;omega),v2b _ _ _ h3,sc i (by omega)];unfold kUa;cases kGa r.Address <;> cases (decide (0<=r.Notify) && decide (r.Notify<=7)) <;> cases (e.To.take i).any (fun x=>x.Address==r.Address) <;> rfl
 rw[hloop];simp only[Option.bind_some,VJa,vka,jAa];have e1:(!(decide ((1:Int)<=(e.To.length:Int)) && decide ((e.To.length:Int)<=60)))=(decide (e.To.length < 1) || decide (60 < e.To.length)):=by generalize e.To.length=n;rw[Bool.eq_iff_iff];simp;omega
 rw[e1];unfold q6b recF;cases e.From !=([]:Str) <;> cases kGa e.From <;> cases (decide (e.To.length < 1) || decide (60 < e.To.length)) <;> cases e.Id !=([]:Str) <;> cases wDa e.Id <;> rfl
theorem ZJa(l:List zca)(h:Jta l):kFa l=some (recF l):=by
 obtain ⟨h3,h4⟩:=h;unfold kFa recF;rw[zQa l (recQ l) (.inl ()) .inr]
 .simp only[Option.bind_some,qfa,VJa]
 .unfold k7a;rw[zRa];rfl
 intro i r hr;have hi:=zUa hr;have ha:=h4 r (List.mem_of_getElem? hr);have hl2:iter (kya r (l.take i)) 0=some ((zFa (fun i x=>if x.Address==r.Address then some ((i:Nat):Int) else none) 0 (l.take i)).elim (.inl ()) .inr):=by
  refine zQa (l.take i) _ (Sum.inl ()) Sum.inr ?_ ?_
  .unfold kya;rw[zRa];rfl
  intro k x hx;have hk:=zUa hx;simp at hk;unfold kya;rw[kqa hx,zJa hx];simp only[cond_true,Option.bind_some,sc k (by omega)];cases x.Address==r.Address <;> rfl
 unfold k7a recQ;rw[kqa hr,zJa hr];simp only[cond_true,Option.bind_some,qNa _ (show r.Address.length < 4294967281 by omega),kra,wya,j0a (Nat.le_of_lt hi),hl2,v1b,v2b _ _ _ h3,sc i (by omega)];cases kGa r.Address <;> cases kUa r.Notify <;> cases (l.take i).any (fun x=>x.Address==r.Address) <;> rfl
theorem jvb{e:zEa}(h:zEa.bk e<=1048576):kAb e:=by
 unfold zEa.bk at h;dsimp only at h;refine ⟨by omega,by omega,?_,fun a ha=>?_⟩
 .have:=q4b (bk:=zca.bk) (fun x=>by unfold zca.bk;omega) e.To;omega
 have h5:=jtb (bk:=zca.bk) ha;have h6:zca.bk a=a.Address.length+1+1+1:=rfl;omega
theorem zzb(s:Str)(i:Nat)(h:i < s.length):(strB s)[i]'(by rw[zKa];exact h)=s[i]:=rfl
theorem jwb(s:Str)(i:Nat)(h:i < s.length):(strB s).get! i=s[i]:=by
 have:=get_at (strB s) i (by rw[zKa];exact h);rw[Nat.add_zero]at this;rw[this];rfl
theorem Jva{s:Str}{i:Nat}{c:UInt8}(h:s[i]? =some c)(hc:c.toNat < 128):KWa s i=(c.toNat:Int)/\jQa s i=1:=by
 have hi:=zUa h;have e:s[i]=c:=by rw[List.getElem?_eq_getElem hi]at h;exact Option.some.inj h
 have hd:=decode_ascii (strB s) i (by rw[zKa];exact hi) (by rw[zzb s i hi,e];exact hc);unfold KWa jQa;rw[hd,zzb s i hi,e];exact ⟨rfl,rfl⟩
theorem jxb{s:Str}{i:Nat}{c:UInt8}(h:s[i]? =some c)(hc:128<=c.toNat):128<=KWa s i/\KWa s i<=2147483647/\1<=jQa s i:=by
 have hi:=zUa h;have e:s[i]=c:=by rw[List.getElem?_eq_getElem hi]at h;exact Option.some.inj h
 have hd:=decode_high (strB s) i (by rw[zKa];exact hi) (by rw[zzb s i hi,e];exact hc);have hl:=decode_le (strB s) i;unfold KWa jQa;exact ⟨by omega,by omega,hd.2⟩
theorem q7b(s:ByteArray)(pos:Nat):∀k,1<=k->k < (Utf8.decode s pos).2->(s.get! (pos+k)).toNat / 64=2:=by
 intro k h1 h2;simp only[Utf8.decode]at h2;repeat' split at h2
 all_goals first
  | (exfalso;simp at h2;omega)
  | (
   rename_i hq _;simp only[Bool.and_eq_true,decide_eq_true_eq,beq_iff_eq]at hq;have h2:k < 2:=h2;obtain rfl:k=1:=by omega
   exact hq.2.2)
  | (
   rename_i hq _;simp only[Bool.and_eq_true,decide_eq_true_eq,beq_iff_eq]at hq;have h2:k < 3:=h2;have:k=1∨k=2:=by omega
   rcases this with rfl | rfl
   .exact hq.1.2.2
   exact hq.2.2)
  | (
   rename_i hq _;simp only[Bool.and_eq_true,decide_eq_true_eq,beq_iff_eq]at hq;have h2:k < 4:=h2;have:k=1∨k=2∨k=3:=by omega
   rcases this with rfl | rfl | rfl
   .exact hq.1.1.2.2
   .exact hq.1.2.2
   exact hq.2.2)
theorem jyb{s:Str}{i j:Nat}{c d:UInt8}(h:s[i]? =some c)(hc:128<=c.toNat)(h1:i<=j)(h2:j < i+jQa s i)(hj:s[j]? =some d):128<=d.toNat:=by
 by_cases e:j=i
 .subst e;rw[h]at hj;cases hj;exact hc
 have hjl:=zUa hj;have e2:s[j]=d:=by rw[List.getElem?_eq_getElem hjl]at hj;exact Option.some.inj hj
 have:=q7b (strB s) i (j - i) (by omega) (by unfold jQa at h2;omega);rw[show i+(j - i)=j by omega,jwb s j hjl,e2]at this;omega
theorem toU8_nat(c:UInt8):toU8 (c.toNat:Int)=c:=by
 unfold toU8;have:=c.toNat_lt;rw[show ((c.toNat:Int) % 256).toNat=c.toNat by omega];simp
theorem Jwa{t:Str}(h:Jsa t=true){c:UInt8}(hc:c∈t):c.toNat < 128:=by
 unfold Jsa at h;rw[List.all_eq_true]at h;simpa using h c hc
theorem wYb{r:Int}(h:128<=r):∃m x,1<=m/\m<=3/\(w7a r).length=m+1/\(w7a r)[m]? =some x/\128<=x.toNat:=by
 unfold w7a;simp only[Utf8.encode];have hc:128<=(if Utf8.valid r=true then r.toNat else Utf8.runeError):=by
  split
  .omega
  decide
 generalize (if Utf8.valid r=true then r.toNat else Utf8.runeError)=c at hc;have hb:∀n:Nat,128<=(UInt8.ofNat (128+n % 64)).toNat:=by
  intro n;rw[UInt8.toNat_ofNat'];have:(128+n % 64) % 2 ^ 8=128+n % 64:=Nat.mod_eq_of_lt (by omega);rw[this];omega
 rw[if_neg (by omega)];split
 .exact ⟨1,_,by omega,by omega,rfl,rfl,hb c⟩
 split
 .exact ⟨2,_,by omega,by omega,rfl,rfl,hb c⟩
 exact ⟨3,_,by omega,by omega,rfl,rfl,hb c⟩
theorem Y1a{t:Str}(h:∀c∈t,c.toNat < 128){x:UInt8}(hx:128<=x.toNat):Lib.indexByte t x= -1:=by
 have hc:=Lib.contains_iff_indexByte t x;have hn:t.contains x=false:=by
  rw[Bool.eq_false_iff];intro hm;have:=h x (by simpa using hm);omega
 rw[hn]at hc;have hge:=Lib.indexByte_ge t x;have:=of_decide_eq_false hc.symm;omega
theorem Yba(t:Str)(c:UInt8)(hc:c.toNat < 128):kna t (c.toNat:Int)=some (Lib.indexByte t c):=by
 unfold kna;have h1:decide ((0:Int)<=(c.toNat:Int))=true:=by simp
 have h2:decide ((c.toNat:Int) < 128)=true:=by simp;omega
 rw[h1,h2];simp only[cond_true,Option.bind_some,toU8_nat];rfl
theorem Y2a(t:Str)(r:Int)(hr:128<=r)(ht:∀c∈t,c.toNat < 128)(hl:t.length<=4294967281):kna t r=some (-1):=by
 unfold kna;have h1:decide ((0:Int)<=r)=true:=by simp;omega
 have h2:decide (r < 128)=false:=by simp;omega
 rw[h1,h2];simp only[cond_true,cond_false,Option.bind_some];cases hq:r==65533 with
 | true=>
  simp only[cond_true];obtain ⟨o,ho,rfl⟩:=WKa (body:=qma t) (fun i=>i<=t.length) (fun i=>t.length - i) (fun _ o=>o=.inl ()) (fun i hi=>by
   unfold qma;by_cases hlt:i < t.length
   .right;have hg:t[i]? =some t[i]:=List.getElem?_eq_getElem hlt;have hc:=ht t[i] (List.getElem_mem hlt);obtain ⟨e1,e2⟩:=Jva hg hc;rw[e1,e2,decide_eq_true hlt];have hne:((t[i].toNat:Int)==65533)=false:=by rw[beq_eq_false_iff_ne];omega
    rw[hne];exact ⟨i+1,rfl,by omega,by omega,fun _ h=>h⟩
   left;rw[decide_eq_false hlt];exact ⟨.inl (),rfl,rfl⟩) 0 (Nat.zero_le _)
  rw[ho];rfl
 | false=>
  simp only[cond_false];have hv:∃b,kxa r=some b:=by
   unfold kxa;cases decide (0<=r) <;> cases decide (r < 55296) <;> cases decide (57343 < r) <;> cases decide (r<=1114111) <;> exact ⟨_,rfl⟩
  obtain ⟨b,hb⟩:=hv;rw[hb];simp only[Option.bind_some];cases b with
  | false=>rfl
  | true=>
   simp only[Bool.not_true,cond_false];obtain ⟨m,x,hm1,hm3,hlen,hx,hx128⟩:=wYb hr;have hst:w64 (((w7a r).length:Int) - 1)=(m:Int):=by rw[hlen,qsa (by omega) (by omega)];omega
   rw[hst];have hbody:∃o,qoa t r (m:Int)=some (.out o)/\(o=.inl ()∨o=.inr (-1)):=by
    unfold qoa;by_cases hlt:m < t.length
    .have hd:decide ((m:Int) < (t.length:Int))=true:=by simp;omega
     have hc:=ht t[m] (List.getElem_mem hlt);rw[hd,hst,K0a hlt,zJa hx];have hne:((t[m].toNat:Int) !=(x.toNat:Int))=true:=by simp;omega
     simp only[cond_true,Option.bind_some,hne];rw[show (m:Int)+1=((m+1:Nat):Int) by omega,ZHa _ (by omega),yXa (by omega)];simp only[Option.bind_some];have hib:zXa (t.drop (m+1)) x=some (-1):=by
      show some (Lib.indexByte (t.drop (m+1)) x)=_;rw[Y1a (fun c hc=>ht c (List.mem_of_mem_drop hc)) hx128]
     rw[hib];exact ⟨.inr (-1),rfl,.inr rfl⟩
    have hd:decide ((m:Int) < (t.length:Int))=false:=by simp;omega
    rw[hd];exact ⟨.inl (),rfl,.inl rfl⟩
   obtain ⟨o,ho,ho2⟩:=hbody;rw[zGa ho];rcases ho2 with rfl | rfl <;> rfl
theorem kBb(s t:Str)(h8:s.length<=8)(h2:2<=t.length)(hl:t.length < 4294967281)(ht:Jsa t=true):vwa s t=some (Lib.indexAny s t):=by
 have htc:∀c∈t,c.toNat < 128:=fun c hc=>Jwa ht hc
 unfold vwa;have e1:(t==([]:Str))=false:=by rw[beq_eq_false_iff_ne];rintro rfl;simp at h2
 have e2:((t.length:Int)==1)=false:=by rw[beq_eq_false_iff_ne];omega
 have e3:zMa (s.length:Int)=some false:=by unfold zMa;simp;omega
 rw[e1,e2,e3];simp only[cond_false,Option.bind_some];obtain ⟨o,ho,ho2⟩:=WKa (body:=qpa s t) (fun i=>Lib.NoAny s t i) (fun i=>s.length - i) (fun _ o=>Sum.elim (fun _=>some (-1)) (fun b=>some b) o=some (Lib.indexAny s t)) (fun i hi=>by
  unfold qpa;by_cases hlt:i < s.length
  .have hg:s[i]? =some s[i]:=List.getElem?_eq_getElem hlt;rw[decide_eq_true hlt];simp only[cond_true];by_cases hc:s[i].toNat < 128
   .obtain ⟨q1,q2⟩:=Jva hg hc;rw[q1,q2,Yba t _ hc];simp only[Option.bind_some];have hcon:=Lib.contains_iff_indexByte t s[i];rw[<-hcon];cases hin:t.contains s[i] with
    | true=>
     left;exact ⟨.inr (i:Int),rfl,by rw[Lib.indexAny_hit hi hg hin];rfl⟩
    | false=>
     right;exact ⟨i+1,rfl,hi.succ hg hin,by omega,fun _ h=>h⟩
   have hc:128<=s[i].toNat:=by omega
   obtain ⟨q1,q2,q3⟩:=jxb hg hc;rw[Y2a t _ q1 htc (by omega)];right;refine ⟨i+jQa s i,rfl,fun j b hj hb=>?_,by omega,fun _ h=>h⟩;by_cases hji:j < i
   .exact hi j b hji hb
   have:=jyb hg hc (by omega) hj hb;rw[Bool.eq_false_iff];intro hm;have:=htc b (by simpa using hm);omega
  left;rw[decide_eq_false hlt];refine ⟨.inl (),rfl,?_⟩;have hn:Lib.NoAny s t s.length:=fun j b hj hb=>hi j b (by omega) hb
  rw[Lib.indexAny_none hn];rfl) 0 (Lib.NoAny.zero s t)
 rw[ho];exact ho2
theorem kCb(t:Str):∀s:Str,decide (0<=Lib.indexAny s t)=s.any fun c=>t.contains c:=by
 intro s;induction s with
 | nil=>rfl
 | cons c s ih=>
  have hge:=Lib.indexAny_ge t s;rw[List.any_cons,<-ih,Lib.indexAny];cases t.contains c with
  | true=>simp
  | false=>
   simp only[Bool.false_eq_true,if_false,Bool.false_or];by_cases h:Lib.indexAny s t= -1
   .simp[h]
   have:(Lib.indexAny s t== -1)=false:=by simpa using h
   rw[this];simp only[Bool.false_eq_true,if_false];rw[Bool.eq_iff_iff];simp;omega
theorem ZKa(s t:Str)(hs:s.length<=1048576)(h2:2<=t.length)(hl:t.length<=1048576)(ht:Jsa t=true):kla s t=some (s.any fun c=>t.contains c):=by
 unfold kla qba;rw[if_pos ⟨by omega,by omega,h2,ht⟩];simp only[Option.bind_some,kCb]
def zIa(c:UInt8):Bool:=c==32 || c==9
theorem yMa(c:UInt8):q1a c=some (zIa c):=by
 unfold q1a zIa;rw[qEa c 32 (by decide),qEa c 9 (by decide)];cases c==32 <;> rfl
theorem jBa(c:UInt8):qLa c=some (zIa c):=by
 unfold qLa zIa;rw[qEa c 32 (by decide),qEa c 9 (by decide)];cases c==32 <;> rfl
def fnC(c:UInt8):Bool:=decide (33<=c) && decide (c<=126) && c !=58
def fnP(s:Str):Bool:=s !=([]:Str) && decide (s.length<=60) && s.all fnC
theorem dec60(s:Str):decide ((s.length:Int)<=60)=decide (s.length<=60):=by generalize s.length=n;rw[Bool.eq_iff_iff];simp;omega
theorem kDb(s:Str)(hs:s.length<=1048576):Z5a s=some (fnP s):=by
 have hloop:iter (w8a s) 0=some ((zFa (fun _ c=>if !fnC c then some () else none) 0 s).elim (.inl ()) .inr):=by
  refine zQa s _ (Sum.inl ()) Sum.inr ?_ ?_
  .unfold w8a;rw[zRa];rfl
  intro i c hc;have hi:=zUa hc;unfold w8a;rw[kqa hc,zJa hc];simp only[cond_true,Option.bind_some,ZIa c 58 (by decide),jia 33 c (by decide),jja 126 c (by decide),sc i (by omega)];unfold fnC;cases decide ((33:UInt8)<=c) <;> cases decide (c<=126) <;> cases c !=58 <;> rfl
 unfold Z5a fnP;rw[hloop];simp only[Option.bind_some,K1a,Zra,zyb,dec60];cases s !=([]:Str) <;> cases decide (s.length<=60) <;> cases s.all fnC <;> rfl
def endC(c:UInt8):Bool:=c==13 || c==10 || c==0
theorem kEb(s:Str)(hs:s.length<=1048576):Z6a s=some (s.any endC):=by
 unfold Z6a;rw[ZKa s _ hs (by decide) (by decide) (by decide)];simp only[Option.bind_some,Option.some.injEq]
 congr 1
 funext c;rw[Bool.eq_iff_iff];simp[endC,or_assoc]
def wZb(s:Str):Bool:=match s.head?,s.getLast? with | some a,some b=>zIa a || zIa b | _,_=>false
def valP(s:Str):Bool:= !(s.any endC) && !(wZb s)
theorem v3b(s:Str)(h:s≠ [])(hs:s.length<=1048576):∃a b,idx s 0=some a/\idx s (w64 ((s.length:Int) - 1))=some b/\s.head? =some a/\s.getLast? =some b:=by
 have hpos:=List.length_pos_iff.2 h;obtain ⟨a,r,rfl⟩:=List.exists_cons_of_ne_nil h;have e:w64 (((a::r).length:Int) - 1)=((r.length:Nat):Int):=by
  have hl:(a::r).length=r.length+1:=rfl;rw[qsa (by omega) (by omega)];omega
 refine ⟨a,(a::r).getLast h,rfl,?_,rfl,List.getLast?_eq_some_getLast h⟩;rw[e,v5a,List.getLast_eq_getElem h,List.getElem?_eq_getElem (by simp)]
 congr 2
theorem zAb(s:Str)(hs:s.length<=1048576):jUa s=some (valP s):=by
 unfold jUa valP;rw[kEb s hs];simp only[Option.bind_some];by_cases hn:s=[]
 .subst hn;rfl
 obtain ⟨a,b,h1,h2,h3,h4⟩:=v3b s hn hs;have e:(s==([]:Str))=false:=by simpa using hn
 unfold wZb;rw[h1,h2,h3,h4,e];simp only[Option.bind_some,jBa,cond_false];cases s.any endC <;> cases zIa a <;> cases zIa b <;> rfl
def br(t:Str)(f i:Nat):Bool:=decide (1<=i) && decide (f<=i) && (match t[i]?,t[i - 1]? with | some a,some b=>zIa a && !zIa b | _,_=>false)
def VKa(t:Str)(f:Nat):Nat->Nat
 | 0=>0
 | i+1=>if br t f (i+1) then i+1 else VKa t f i
def zBb(t:Str)(f:Nat):Nat->Nat->Nat
 | 0,_=>0
 | n+1,i=>if br t f i then i else zBb t f n (i+1)
def cutP(t:Str)(f:Nat):Nat:=if VKa t f 78=0 then zBb t f (t.length - 79) 79 else VKa t f 78
def q8b(t:Str)(f c:Nat):Prop:=(c=0/\∀j,br t f j=false)∨(br t f c=true/\((c<=78/\∀j,c < j->j<=78->br t f j=false)∨(78 < c/\∀j,j < c->br t f j=false)))
theorem jzb(t:Str)(f:Nat):br t f 0=false:=rfl
theorem zCb{t:Str}{f i:Nat}(h:br t f i=true):i < t.length/\1<=i/\f<=i:=by
 unfold br at h;simp only[Bool.and_eq_true,decide_eq_true_eq]at h;obtain ⟨⟨h1,h2⟩,h3⟩:=h;refine ⟨?_,h1,h2⟩;cases hi:t[i]? with
 | none=>rw[hi]at h3;simp at h3
 | some a=>exact zUa hi
theorem kFb{t:Str}{f c d:Nat}(h:q8b t f c)(k:q8b t f d):c=d:=by
 rcases h with ⟨rfl,h⟩ | ⟨hc,h⟩ <;> rcases k with ⟨rfl,k⟩ | ⟨hd,k⟩
 .rfl
 .rw[h]at hd;cases hd
 .rw[k]at hc;cases hc
 rcases Nat.lt_trichotomy c d with hlt | heq | hgt
 .exfalso;rcases h with ⟨h1,h2⟩ | ⟨h1,h2⟩ <;> rcases k with ⟨k1,k2⟩ | ⟨k1,k2⟩
  .rw[h2 d hlt k1]at hd;cases hd
  .rw[k2 c hlt]at hc;cases hc
  .omega
  rw[k2 c hlt]at hc;cases hc
 .exact heq
 exfalso;rcases h with ⟨h1,h2⟩ | ⟨h1,h2⟩ <;> rcases k with ⟨k1,k2⟩ | ⟨k1,k2⟩
 .rw[k2 c hgt h1]at hc;cases hc
 .omega
 .rw[h2 d hgt]at hd;cases hd
 rw[h2 d hgt]at hd;cases hd
theorem w0b(t:Str)(f:Nat):∀n,(VKa t f n=0/\∀j,j<=n->br t f j=false)∨(br t f (VKa t f n)=true/\VKa t f n<=n/\∀j,VKa t f n < j->j<=n->br t f j=false):=by
 intro n;induction n with
 | zero=>left;exact ⟨rfl,fun j hj=>by
  obtain rfl:j=0:=by omega
  exact jzb t f⟩
 | succ n ih=>
  unfold VKa;by_cases h:br t f (n+1)=true
  .rw[if_pos h];right;exact ⟨h,Nat.le_refl _,fun j h1 h2=>by omega⟩
  rw[if_neg h];rcases ih with ⟨h1,h2⟩ | ⟨h1,h2,h3⟩
  .left;refine ⟨h1,fun j hj=>?_⟩;by_cases e:j=n+1
   .subst e;simpa using h
   exact h2 j (by omega)
  right;refine ⟨h1,by omega,fun j hj hjn=>?_⟩;by_cases e:j=n+1
  .subst e;simpa using h
  exact h3 j hj (by omega)
theorem w1b(t:Str)(f:Nat):∀n i,(zBb t f n i=0/\∀j,i<=j->j < i+n->br t f j=false)∨(br t f (zBb t f n i)=true/\i<=zBb t f n i/\∀j,i<=j->j < zBb t f n i->br t f j=false):=by
 intro n;induction n with
 | zero=>intro i;left;exact ⟨rfl,fun j h1 h2=>by omega⟩
 | succ n ih=>
  intro i;unfold zBb;by_cases h:br t f i=true
  .rw[if_pos h];right;exact ⟨h,Nat.le_refl _,fun j h1 h2=>by omega⟩
  rw[if_neg h];have hb:br t f i=false:=by simpa using h
  rcases ih (i+1) with ⟨h1,h2⟩ | ⟨h1,h2,h3⟩
  .left;refine ⟨h1,fun j hj hjn=>?_⟩;by_cases e:j=i
   .subst e;exact hb
   exact h2 j (by omega) (by omega)
  right;refine ⟨h1,by omega,fun j hj hjn=>?_⟩;by_cases e:j=i
  .subst e;exact hb
  exact h3 j (by omega) hjn
theorem q9b(t:Str)(f:Nat):q8b t f (cutP t f):=by
 unfold cutP;rcases w0b t f 78 with ⟨h1,h2⟩ | ⟨h1,h2,h3⟩
 .rw[if_pos h1];rcases w1b t f (t.length - 79) 79 with ⟨k1,k2⟩ | ⟨k1,k2,k3⟩
  .left;refine ⟨k1,fun j=>?_⟩;by_cases hj:j<=78
   .exact h2 j hj
   cases hb:br t f j with
   | false=>rfl
   | true=>have:=(zCb hb).1;rw[k2 j (by omega) (by omega)]at hb;cases hb
  right;refine ⟨k1,.inr ⟨by omega,fun j hj=>?_⟩⟩;by_cases hj2:j<=78
  .exact h2 j hj2
  exact k3 j (by omega) hj
 have hne:VKa t f 78≠0:=by intro h;rw[h,jzb]at h1;cases h1
 rw[if_neg hne];exact .inr ⟨h1,.inl ⟨h2,h3⟩⟩
theorem Zsa{t:Str}{f:Nat}(h:cutP t f≠0):1<=cutP t f/\cutP t f < t.length:=by
 rcases q9b t f with ⟨h1,_⟩ | ⟨h1,_⟩
 .exact absurd h1 h
 exact ⟨(zCb h1).2.1,(zCb h1).1⟩
theorem br_at{t:Str}{f i:Nat}(h1:1<=i)(hi:i < t.length):br t f i=(decide (f<=i) && (zIa t[i] && !zIa (t[i - 1]'(by omega)))):=by
 unfold br;rw[List.getElem?_eq_getElem hi,List.getElem?_eq_getElem (show i - 1 < t.length by omega)];simp[h1]
def PInv(t:Str)(f b i:Nat):Prop:=f<=i/\1<=i/\((b=0/\∀j,j < i->br t f j=false)∨(br t f b=true/\b < i/\((b<=78/\∀j,b < j->j < i->br t f j=false)∨(78 < b/\∀j,j < b->br t f j=false))))
theorem PInv.done{t:Str}{f b i:Nat}(h:PInv t f b i)(hi:0 < b/\78 < i∨t.length<=i):q8b t f b:=by
 obtain ⟨hf,h1,h2⟩:=h;rcases h2 with ⟨rfl,h3⟩ | ⟨h3,h4,h5⟩
 .left;refine ⟨rfl,fun j=>?_⟩;cases hb:br t f j with
  | false=>rfl
  | true=>
   have:=(zCb hb).1;rw[h3 j (by omega)]at hb;cases hb
 right;refine ⟨h3,?_⟩;rcases h5 with ⟨h6,h7⟩ | h6
 .left;refine ⟨h6,fun j hj hj2=>?_⟩;cases hb:br t f j with
  | false=>rfl
  | true=>
   have:=(zCb hb).1;rw[h7 j hj (by omega)]at hb;cases hb
 exact .inr h6
theorem zDb(t:Str)(f:Nat)(ht:t.length<=4194304)(hf:f<=4194304):jVa t (f:Int)=some ((cutP t (max f 1):Nat):Int):=by
 unfold jVa;have hstart:max (f:Int) 1=((max f 1:Nat):Int):=by omega
 rw[hstart];obtain ⟨r,h1,b,rfl,h2⟩:=WKa (body:=yAa t) (fun s=>∃b i:Nat,s=((b:Int),(i:Int))/\PInv t (max f 1) b i/\i<=4194305) (fun s=>(4194306 - s.2).toNat) (fun _ r=>∃c:Nat,r=(c:Int)/\q8b t (max f 1) c) (by
  rintro _ ⟨b,i,rfl,hI,hil⟩;have hi1:=hI.2.1;unfold yAa;dsimp only;by_cases hlt:i < t.length
  .have hd:decide ((i:Int) < (t.length:Int))=true:=by simp;omega
   have hpre:w64 ((i:Int) - 1)=((i - 1:Nat):Int):=by rw[qsa (by omega) (by omega)];omega
   rw[hd,K0a hlt,hpre,K0a (show i - 1 < t.length by omega)];have hb:=br_at (f:=max f 1) hi1 hlt;have hfi:decide (max f 1<=i)=true:=by simp only[decide_eq_true_eq];exact hI.1
   rw[hfi,Bool.true_and]at hb;simp only[cond_true,Option.bind_some,jBa];have next:∀b' :Nat,PInv t (max f 1) b' (i+1)->qMa ((b:Int),(i:Int)) (b' :Int)=some (.cont ((b' :Int),((i+1:Nat):Int))):=by
    intro b' _;unfold qMa;dsimp only;rw[sc i (by omega)]
   have hno:br t (max f 1) i=false->PInv t (max f 1) b (i+1):=by
    intro hnb;refine ⟨by have:=hI.1;omega,by omega,?_⟩;rcases hI.2.2 with ⟨q1,q2⟩ | ⟨q1,q2,q3⟩
    .left;refine ⟨q1,fun j hj=>?_⟩;by_cases e:j=i
     .subst e;exact hnb
     exact q2 j (by omega)
    right;refine ⟨q1,by omega,?_⟩;rcases q3 with ⟨q4,q5⟩ | q4
    .left;refine ⟨q4,fun j hj hj2=>?_⟩;by_cases e:j=i
     .subst e;exact hnb
     exact q5 j hj (by omega)
    exact .inr q4
   have goNo:br t (max f 1) i=false->(∃s',qMa ((b:Int),(i:Int)) (b:Int)=some (.cont s')/\(∃b i:Nat,s' =((b:Int),(i:Int))/\PInv t (max f 1) b i/\i<=4194305)/\(4194306 - s'.2).toNat < (4194306 - ((i:Int))).toNat/\∀r:Int,(∃c:Nat,r=(c:Int)/\q8b t (max f 1) c)->∃c:Nat,r=(c:Int)/\q8b t (max f 1) c):=by
    intro hnb;exact ⟨_,next b (hno hnb),⟨b,i+1,rfl,hno hnb,by omega⟩,by dsimp only;omega,fun _ h=>h⟩
   cases ha:zIa t[i] with
   | false=>
    rw[ha]at hb;simp only[Bool.not_false,cond_true,Option.bind_some];exact .inr (goNo hb)
   | true=>
    rw[ha]at hb;simp only[Bool.not_true,cond_false,Option.bind_some];cases hp:zIa t[i - 1] with
    | true=>
     rw[hp]at hb;simp only[cond_true];exact .inr (goNo hb)
    | false=>
     rw[hp]at hb;have hb:br t (max f 1) i=true:=hb;simp only[cond_false];by_cases hb0:0 < b/\78 < i
     .left;have e1:decide ((0:Int) < (b:Int))=true:=by simp;omega
      have e2:decide ((78:Int) < (i:Int))=true:=by simp;omega
      rw[e1,e2];exact ⟨(b:Int),rfl,b,rfl,hI.done (.inl hb0)⟩
     right;have e:(bif decide ((0:Int) < (b:Int)) then some (decide ((78:Int) < (i:Int))) else some false)=some false:=by
      by_cases h0:0 < b
      .have e1:decide ((0:Int) < (b:Int))=true:=by simp;omega
       have e2:decide ((78:Int) < (i:Int))=false:=by simp;omega
       rw[e1,e2];rfl
      have e1:decide ((0:Int) < (b:Int))=false:=by simp;omega
      rw[e1];rfl
     rw[e];simp only[Option.bind_some,cond_false];have hnew:PInv t (max f 1) i (i+1):=by
      refine ⟨by have:=hI.1;omega,by omega,.inr ⟨hb,by omega,?_⟩⟩;by_cases h78:i<=78
      .exact .inl ⟨h78,fun j h1 h2=>by omega⟩
      right;refine ⟨by omega,?_⟩;rcases hI.2.2 with ⟨q1,q2⟩ | ⟨q1,q2,q3⟩
      .exact q2
      exfalso;have:=(zCb q1).2.1;omega
     exact ⟨_,next i hnew,⟨i,i+1,rfl,hnew,by omega⟩,by dsimp only;omega,fun _ h=>h⟩
  left;have hd:decide ((i:Int) < (t.length:Int))=false:=by simp;omega
  rw[hd];exact ⟨(b:Int),rfl,b,rfl,hI.done (.inr (by omega))⟩) ((0:Int),((max f 1:Nat):Int)) ⟨0,max f 1,rfl,⟨Nat.le_refl _,by omega,.inl ⟨rfl,fun j hj=>by
  cases hb:br t (max f 1) j with
  | false=>rfl
  | true=>have:=(zCb hb).2.2;omega⟩⟩,by omega⟩
 rw[h1];simp only[Option.bind_some];rw[kFb h2 (q9b t (max f 1))]
theorem R_cut_eq(t:Str)(f:Nat)(out:List Str)(ht:t.length<=4194304)(h78:78 < t.length)(hf:f<=4194304)(h1f:1<=f):((iter (kKa (t,(f:Int),out)) (0,78)).bind fun b10=>iter (kta (t,(f:Int),out)) (b10,79))=some ((cutP t f:Nat):Int):=by
 have test:∀i:Nat,1<=i->i < t.length->((bif decide ((f:Int)<=(i:Int)) then (idx t (i:Int)).bind fun v18=>(q1a v18).bind fun v20=>(bif v20 then (idx t ((w64 ((i:Int) - 1)))).bind fun v23=>(q1a v23).bind fun v25=>some ((!v25)) else some false) else some false):Option Bool)=some (br t f i):=by
  intro i h1 h2;have hpre:w64 ((i:Int) - 1)=((i - 1:Nat):Int):=by rw[qsa (by omega) (by omega)];omega
  rw[br_at h1 h2,K0a h2,hpre,K0a (show i - 1 < t.length by omega)];have e:decide ((f:Int)<=(i:Int))=decide (f<=i):=by rw[Bool.eq_iff_iff];simp
  rw[e];simp only[Option.bind_some,yMa];cases decide (f<=i) <;> cases zIa t[i] <;> rfl
 have hdn:∀i:Nat,i<=78->iter (kKa (t,(f:Int),out)) (0,(i:Int))=some ((VKa t f i:Nat):Int):=by
  intro i;induction i with
  | zero=>intro _;exact zGa (by unfold kKa;rfl)
  | succ i ih=>
   intro hi;have hb:kKa (t,(f:Int),out) (0,((i+1:Nat):Int))=some (.cont ((bif br t f (i+1) then ((i+1:Nat):Int) else 0),(i:Int))):=by
    unfold kKa;dsimp only;have e1:decide ((0:Int) < ((i+1:Nat):Int))=true:=by rw[decide_eq_true_eq];omega
    have e2:w64 (((i+1:Nat):Int) - 1)=(i:Int):=by rw[qsa (by omega) (by omega)];omega
    rw[test (i+1) (by omega) (by omega),e1,e2];simp only[beq_self_eq_true,cond_true,Option.bind_some];cases br t f (i+1) <;> rfl
   rw[zNa hb];unfold VKa;cases hq:br t f (i+1) with
   | false=>simpa using ih (by omega)
   | true=>
    simp only[cond_true,if_true];refine zGa ?_;unfold kKa;dsimp only;have e3:((((i+1:Nat):Int))==0)=false:=by rw[beq_eq_false_iff_ne];omega
    rw[e3];cases decide ((0:Int) < (i:Int)) <;> rfl
 have h1:=hdn 78 (by omega);have e78:((78:Nat):Int)=78:=rfl;rw[e78]at h1;rw[h1];simp only[Option.bind_some];have hout:∀(c i:Nat),c≠0->iter (kta (t,(f:Int),out)) ((c:Int),(i:Int))=some ((c:Nat):Int):=by
  intro c i hc;refine zGa ?_;unfold kta;dsimp only;have e3:((c:Int)==0)=false:=by rw[beq_eq_false_iff_ne];omega
  rw[e3];cases decide ((i:Int) < (t.length:Int)) <;> rfl
 have hup:∀n i:Nat,i+n=t.length->1<=i->iter (kta (t,(f:Int),out)) (0,(i:Int))=some ((zBb t f n i:Nat):Int):=by
  intro n;induction n with
  | zero=>
   intro i hi _;refine zGa ?_;unfold kta;dsimp only;have:decide ((i:Int) < (t.length:Int))=false:=by rw[decide_eq_false_iff_not];omega
   rw[this];rfl
  | succ n ih=>
   intro i hi h1i;have hb:kta (t,(f:Int),out) (0,(i:Int))=some (.cont ((bif br t f i then (i:Int) else 0),((i+1:Nat):Int))):=by
    unfold kta;dsimp only;have e1:decide ((i:Int) < (t.length:Int))=true:=by simp;omega
    rw[test i h1i (by omega),e1,sc i (by omega)];simp only[beq_self_eq_true,cond_true,Option.bind_some];cases br t f i <;> rfl
   rw[zNa hb];unfold zBb;cases hq:br t f i with
   | false=>simpa using ih (i+1) (by omega) (by omega)
   | true=>
    simp only[cond_true,if_true];exact hout i (i+1) (by omega)
 unfold cutP;have e79:((79:Nat):Int)=79:=rfl;by_cases h0:VKa t f 78=0
 .rw[if_pos h0,h0];have:=hup (t.length - 79) 79 (by omega) (by omega);rw[e79]at this;exact this
 rw[if_neg h0];have:=hout (VKa t f 78) 79 h0;rw[e79]at this;exact this
def QZa:Nat->Str->Nat->List Str
 | 0,t,_=>[t]
 | n+1,t,f=>if 78 < t.length then (if cutP t f=0 then [t] else t.take (cutP t f)::QZa n (t.drop (cutP t f)) 1) else [t]
theorem zEb:∀(n m:Nat) (t:Str) (f:Nat),t.length<=n->t.length<=m->QZa n t f=QZa m t f:=by
 intro n;induction n with
 | zero=>
  intro m t f h1 h2;cases m with
  | zero=>rfl
  | succ m=>unfold QZa;rw[if_neg (by omega)]
 | succ n ih=>
  intro m t f h1 h2;cases m with
  | zero=>unfold QZa;rw[if_neg (by omega)]
  | succ m=>
   unfold QZa;split
   .split
    .rfl
    rename_i hc;have:=Zsa hc;rw[ih m _ 1 (by simp;omega) (by simp;omega)]
   rfl
def yra(t:Str)(f:Nat):List Str:=QZa t.length t f
theorem jla{t:Str}{f:Nat}(h:78 < t.length)(hc:cutP t f≠0):yra t f=t.take (cutP t f)::yra (t.drop (cutP t f)) 1:=by
 unfold yra;obtain ⟨n,hn⟩:∃n,t.length=n+1:=⟨t.length - 1,by omega⟩;have hp:=Zsa hc;rw[hn,QZa,if_pos h,if_neg hc];rw[zEb n (t.drop (cutP t f)).length _ 1 (by simp;omega) (Nat.le_refl _)]
theorem k5a{t:Str}{f:Nat}(h:¬78 < t.length∨cutP t f=0):yra t f=[t]:=by
 unfold yra;cases hn:t.length with
 | zero=>rfl
 | succ n=>
  rw[QZa];rcases h with h | h
  .rw[if_neg h]
  split
  .rfl
  rfl
theorem jma:∀(n:Nat) (t:Str) (f:Nat),t.length<=n->(yra t f).flatten=t/\(yra t f).length<=t.length+1:=by
 intro n;induction n with
 | zero=>intro t f h;rw[k5a (.inl (by omega))];simp
 | succ n ih=>
  intro t f h;by_cases h78:78 < t.length
  .by_cases hc:cutP t f=0
   .rw[k5a (.inr hc)];simp
   have hp:=Zsa hc;rw[jla h78 hc];obtain ⟨h1,h2⟩:=ih (t.drop (cutP t f)) 1 (by simp;omega);rw[List.flatten_cons,h1];refine ⟨by simp,?_⟩;simp only[List.length_cons,List.length_drop]at h2 ⊢;omega
  rw[k5a (.inl h78)];simp
theorem Jxa{body:Str × Int × List Str->Option (Step (Str × Int × List Str) (Str × List Str))}(enc:Nat->Int)(g:Nat)
 (h:∀(t:Str) (f:Nat) (out:List Str),t.length<=4194304->out.length<=4194305->f<=4194304->body (t,enc f,out)=some (if 78 < t.length then (if cutP t (max f 1)=0 then .out (t,out) else .cont (t.drop (cutP t (max f 1)),enc g,out++ [t.take (cutP t (max f 1))])) else .out (t,out))) (h0:max g 1=1):
 ∀(n:Nat) (t:Str) (f:Nat) (out:List Str),t.length<=n->t.length<=4194304->out.length+t.length<=4194305->f<=4194304->∃last init,iter body (t,enc f,out)=some (last,init)/\init++ [last]=out++yra t (max f 1):=by
 intro n;induction n with
 | zero=>
  intro t f out h1 h2 h3 h4;have hb:=h t f out h2 (by omega) h4;rw[if_neg (by omega)]at hb;exact ⟨t,out,zGa hb,by rw[k5a (.inl (by omega))]⟩
 | succ n ih=>
  intro t f out h1 h2 h3 h4;have hb:=h t f out h2 (by omega) h4;by_cases h78:78 < t.length
  .rw[if_pos h78]at hb;by_cases hc:cutP t (max f 1)=0
   .rw[if_pos hc]at hb;exact ⟨t,out,zGa hb,by rw[k5a (.inr hc)]⟩
   rw[if_neg hc]at hb;have hp:=Zsa hc;obtain ⟨last,init,q1,q2⟩:=ih (t.drop (cutP t (max f 1))) g (out++ [t.take (cutP t (max f 1))]) (by simp;omega) (by simp;omega) (by simp;omega) (by omega);refine ⟨last,init,(zNa hb).trans q1,?_⟩;rw[q2,h0,jla h78 hc];simp
  rw[if_neg h78]at hb;exact ⟨t,out,zGa hb,by rw[k5a (.inl h78)]⟩
def txt(n v:Str):Str:=n++ [58,32]++v
def flP(n v:Str):List Str:=yra (txt n v) (n.length+2)
theorem jAb(t:Str)(f:Nat)(ht:t.length<=4194304)(hf:f<=4194304):∃last init,iter w9a (t,(f:Int),([]:List Str))=some (last,init)/\init++ [last]=yra t (max f 1):=by
 have:=Jxa (body:=w9a) (fun n=>(n:Int)) 0 (fun t f out h1 h2 h3=>by
  unfold w9a;dsimp only;by_cases h78:78 < t.length
  .have hd:decide ((78:Int) < (t.length:Int))=true:=by rw[decide_eq_true_eq];omega
   rw[hd,if_pos h78,zDb t f h1 h3];simp only[cond_true,Option.bind_some];by_cases hc:cutP t (max f 1)=0
   .rw[if_pos hc,hc];rfl
   have hp:=Zsa hc;have e:(((cutP t (max f 1):Nat):Int)==0)=false:=by rw[beq_eq_false_iff_ne];omega
   rw[if_neg hc,e,j0a (by omega),yXa (by omega)];simp only[cond_false,Option.bind_some];rw[zYa (by simp;omega)];rfl
  have hd:decide ((78:Int) < (t.length:Int))=false:=by rw[decide_eq_false_iff_not];omega
  rw[hd,if_neg h78];rfl) (by decide) t.length t f [] (Nat.le_refl _) ht (by simp;omega) hf
 simpa using this
theorem ref_loop(t:Str)(f:Nat)(ht:t.length<=4194304)(hf:f<=4194304)(h1f:1<=f):∃last init,iter vha (t,(f:Int),([]:List Str))=some (last,init)/\init++ [last]=yra t f:=by
 have:=Jxa (body:=vha) (fun n=>((max n 1:Nat):Int)) 1 (fun t f out h1 h2 h3=>by
  unfold vha;dsimp only;by_cases h78:78 < t.length
  .have hd:decide ((78:Int) < (t.length:Int))=true:=by rw[decide_eq_true_eq];omega
   have hc0:=R_cut_eq t (max f 1) out h1 h78 (by omega) (by omega);obtain ⟨b10,hb10,hc1⟩:=Option.bind_eq_some_iff.1 hc0;rw[hd,if_pos h78,hb10];simp only[cond_true,Option.bind_some];rw[hc1];simp only[Option.bind_some];by_cases hc:cutP t (max f 1)=0
   .rw[if_pos hc,hc];rfl
   have hp:=Zsa hc;have e:(((cutP t (max f 1):Nat):Int)==0)=false:=by rw[beq_eq_false_iff_ne];omega
   rw[if_neg hc,e,j0a (by omega),yXa (by omega)];simp only[cond_false,Option.bind_some];rw[zYa (by simp;omega)];rfl
  have hd:decide ((78:Int) < (t.length:Int))=false:=by rw[decide_eq_false_iff_not];omega
  rw[hd,if_neg h78];rfl) (by decide) t.length t f [] (Nat.le_refl _) ht (by simp;omega) hf
 have e:max f 1=f:=by omega
 rw[e]at this;simpa using this
theorem jBb(n v:Str)(hn:n.length<=1048576)(hv:v.length<=1048576):cat n [58,32]=some (n++ [58,32])/\cat (n++ [58,32]) v=some (txt n v)/\w64 ((n.length:Int)+2)=((n.length+2:Nat):Int):=by
 refine ⟨wxa (by simp;omega),wxa (by simp;omega),?_⟩;rw[qsa (by omega) (by omega)];omega
theorem Yca(n v:Str):(txt n v).length=n.length+2+v.length:=by unfold txt;simp;omega
theorem Kaa(n v:Str)(hn:n.length<=1048576)(hv:v.length<=1048576):wba n v=some (flP n v):=by
 obtain ⟨h1,h2,h3⟩:=jBb n v hn hv;have hl:=Yca n v;obtain ⟨last,init,q1,q2⟩:=ref_loop (txt n v) (n.length+2) (by omega) (by omega) (by omega);unfold wba flP;rw[h1];simp only[Option.bind_some];rw[h2];simp only[Option.bind_some];rw[h3,q1];simp only[Option.bind_some];have hj:=(jma (txt n v).length (txt n v) (n.length+2) (Nat.le_refl _)).2;rw[<-q2]at hj;simp at hj;rw[zYa (by simp;omega),q2];rfl
def Yda(i:Nat)(l:Str):Option Int:=if 998 < l.length then some (i:Int) else none
def vab(n v:Str):List Str × zva:=
 if !fnP n then ([],⟨10, -1⟩) else if 4000 < v.length then ([],⟨1, -1⟩) else if !valP v then ([],⟨11, -1⟩) else match zFa Yda 0 (flP n v) with | some i=>([],⟨1,i⟩) | none=>(flP n v,⟨0,0⟩)
theorem v4b(n v:Str):(flP n v).length<=n.length+v.length+3:=by
 have:=(jma (txt n v).length (txt n v) (n.length+2) (Nat.le_refl _)).2;have hl:=Yca n v;unfold flP;omega
theorem dec998(l:Str):decide ((998:Int) < (l.length:Int))=decide (998 < l.length):=by generalize l.length=n;rw[Bool.eq_iff_iff];simp;omega
theorem jna(n v:Str)(hn:n.length<=1048576)(hv:v.length<=1048576):yUa n v=some (vab n v):=by
 obtain ⟨h1,h2,h3⟩:=jBb n v hn hv;have hl:=Yca n v;obtain ⟨last,init,q1,q2⟩:=jAb (txt n v) (n.length+2) (by omega) (by omega);rw[show max (n.length+2) 1=n.length+2 by omega]at q2;unfold yUa vab;rw[kDb n hn,zAb v hv];simp only[Option.bind_some,kra,qfa];cases fnP n with
 | false=>rfl
 | true=>
  simp only[Bool.not_true,cond_false,Bool.false_eq_true,if_false];by_cases h4:4000 < v.length
  .have hd:decide ((4000:Int) < (v.length:Int))=true:=by rw[decide_eq_true_eq];omega
   rw[hd,if_pos h4];rfl
  have hd:decide ((4000:Int) < (v.length:Int))=false:=by rw[decide_eq_false_iff_not];omega
  rw[hd,if_neg h4];simp only[cond_false];cases valP v with
  | false=>rfl
  | true=>
   simp only[Bool.not_true,cond_false,Bool.false_eq_true,if_false];rw[h1];simp only[Option.bind_some];rw[h2];simp only[Option.bind_some];rw[h3,q1];simp only[Option.bind_some];have hj:=v4b n v;have hfl:flP n v=init++ [last]:=q2.symm;have hj2:=hj;rw[hfl]at hj2;simp at hj2;rw[zYa (by simp;omega),<-hfl];simp only[Option.bind_some];rw[zQa (flP n v) (fun i l=>(Yda i l).map fun k=>(([]:List Str),(⟨1,k⟩:zva))) (.inl ()) .inr]
   .simp only[Option.bind_some];have hm:∀(l:List Str) (i:Nat),zFa (fun i l=>(Yda i l).map fun k=>(([]:List Str),(⟨1,k⟩:zva))) i l=(zFa Yda i l).map fun k=>(([]:List Str),(⟨1,k⟩:zva)):=by
     intro l;induction l with
     | nil=>intro i;rfl
     | cons x l ih=>intro i;unfold zFa;rw[ih];cases Yda i x <;> rfl
    rw[hm];cases zFa Yda 0 (flP n v) <;> rfl
   .unfold jfa;rw[zRa];rfl
   intro i l hli;have hi:=zUa hli;unfold jfa Yda;rw[kqa hli,zJa hli];simp only[cond_true,Option.bind_some,dec998,kra,sc i (by omega)];by_cases h9:998 < l.length
   .simp[h9]
   simp[h9]
def yDa(f:zha):Int:=(vab f.Name f.Value).2.Code
def zFb(l:List Str):Bool:=l.any fun s=>decide (998 < s.length)
theorem Jya(l:List Str):∀n,(zFa Yda n l).isSome=zFb l:=by
 induction l with
 | nil=>intro n;rfl
 | cons x l ih=>
  intro n;unfold zFa zFb Yda;by_cases h:998 < x.length
  .simp[h]
  simp only[h,if_false,List.any_cons,decide_false,Bool.false_or];exact ih (n+1)
def vbb(n v:Str):Int:=if !fnP n then 10 else if 4000 < v.length then 1 else if !valP v then 11 else if zFb (flP n v) then 1 else 0
theorem Q0a(f:zha):yDa f=vbb f.Name f.Value:=by
 unfold yDa vab vbb;rw[<-Jya (flP f.Name f.Value) 0];split
 .rfl
 split
 .rfl
 split
 .rfl
 cases zFa Yda 0 (flP f.Name f.Value) <;> rfl
theorem R_In_60(s:Str):R_In (s.length:Int) 1 60=some (s !=([]:Str) && decide (s.length<=60)):=by
 rw[vka];cases s with
 | nil=>rfl
 | cons c s=>
  have h:decide ((1:Int)<=((c::s).length:Int))=true:=by rw[decide_eq_true_eq];simp;omega
  rw[h,dec60];rfl
theorem elim_int(c:Int)(o:Option Unit)(f:Unit->Option Int):Sum.elim f (fun b=>some b) (o.elim (Sum.inl ()) (fun _=>Sum.inr c):Unit ⊕ Int)=bif o.isSome then some c else f ():=by cases o <;> rfl
theorem K2a(f:zha)(hn:f.Name.length<=1048576)(hv:f.Value.length<=1048576):wMa f=some (yDa f):=by
 rw[Q0a];unfold wMa;have hl1:iter (vLa f) 0=some ((zFa (fun _ c=>if !fnC c then some () else none) 0 f.Name).elim (.inl ()) fun _=>.inr 10):=by
  refine zQa f.Name _ (Sum.inl ()) (fun _=>Sum.inr 10) ?_ ?_
  .unfold vLa;rw[zRa];rfl
  intro i c hc;have hi:=zUa hc;unfold vLa;rw[kqa hc,zJa hc];simp only[cond_true,Option.bind_some,vka,qEa c 58 (by decide),jia 33 c (by decide),jja 126 c (by decide),sc i (by omega)];unfold fnC bne;cases decide ((33:UInt8)<=c) <;> cases decide (c<=126) <;> cases c==58 <;> rfl
 have hl2:iter (vMa f) 0=some ((zFa (fun _ c=>if endC c then some () else none) 0 f.Value).elim (.inl ()) fun _=>.inr 11):=by
  refine zQa f.Value _ (Sum.inl ()) (fun _=>Sum.inr 11) ?_ ?_
  .unfold vMa;rw[zRa];rfl
  intro i c hc;have hi:=zUa hc;unfold vMa;rw[kqa hc,zJa hc];simp only[cond_true,Option.bind_some,qEa c 0 (by decide),qEa c 10 (by decide),qEa c 13 (by decide),sc i (by omega)];unfold endC;cases c==0 <;> cases c==10 <;> cases c==13 <;> rfl
 have hl3:∀l:List Str,l.length<=4194304->iter (vNa l) 0=some ((zFa (fun _ c=>if decide (998 < c.length) then some () else none) 0 l).elim (.inl ()) fun _=>.inr 1):=by
  intro l hl;refine zQa l _ (Sum.inl ()) (fun _=>Sum.inr 1) ?_ ?_
  .unfold vNa;rw[zRa];rfl
  intro i c hc;have hi:=zUa hc;unfold vNa;rw[kqa hc,zJa hc];simp only[cond_true,Option.bind_some,dec998,sc i (by omega)];cases decide (998 < c.length) <;> rfl
 have hfl:=v4b f.Name f.Value;rw[hl1];simp only[Option.bind_some,elim_int,Zra,zyb,R_In_60,hl2,Kaa _ _ hn hv,hl3 _ (show (flP f.Name f.Value).length<=4194304 by omega)];have h4:decide ((4000:Int) < (f.Value.length:Int))=decide (4000 < f.Value.length):=by generalize f.Value.length=n;rw[Bool.eq_iff_iff];simp;omega
 have he:(bif decide ((0:Int) < (f.Value.length:Int)) then (idx f.Value 0).bind fun v38=>(q1a v38).bind fun v40=>(bif v40 then some true else (idx f.Value ((w64 ((f.Value.length:Int) - 1)))).bind fun v43=>(q1a v43).bind fun v45=>some v45) else some false)=some (wZb f.Value):=by
  by_cases hn0:f.Value=[]
  .rw[hn0];rfl
  obtain ⟨a,b,h1,h2,h3,h4⟩:=v3b f.Value hn0 hv;have hp:=List.length_pos_iff.2 hn0;have hd:decide ((0:Int) < (f.Value.length:Int))=true:=by rw[decide_eq_true_eq];omega
  unfold wZb;rw[h1,h2,h3,h4,hd];simp only[Option.bind_some,yMa,cond_true];cases zIa a <;> rfl
 rw[he,h4];simp only[Option.bind_some];unfold vbb fnP valP zFb;cases f.Name.all fnC <;> cases (f.Name !=([]:Str)) <;> cases decide (f.Name.length<=60) <;> (try rfl)
 simp only[Bool.and_true,Bool.not_true,Bool.false_eq_true,if_false,cond_false];by_cases h4000:4000 < f.Value.length
 .simp[h4000]
 simp only[h4000,decide_false,cond_false,if_false];cases f.Value.any endC <;> cases wZb f.Value <;> (try rfl)
 simp only[Bool.not_false,Bool.and_true,Bool.not_true,Bool.false_eq_true,if_false,cond_false];cases (flP f.Name f.Value).any fun s=>decide (998 < s.length) <;> rfl
def smallF(l:List zha):Prop:=l.length<=1048576/\∀f∈l,f.Name.length<=1048576/\f.Value.length<=1048576
def Kba(i:Nat)(f:zha):Option zva:=if yDa f !=0 then some ⟨yDa f,i⟩ else none
def ZLa(l:List zha):zva:=if 60 < l.length then ⟨2, -1⟩ else (zFa Kba 0 l).getD ⟨0,0⟩
theorem dec60f(l:List zha):decide ((60:Int) < (l.length:Int))=decide (60 < l.length):=by generalize l.length=n;rw[Bool.eq_iff_iff];simp;omega
theorem Q1a(l:List zha)(h:smallF l):vga l=some (ZLa l):=by
 obtain ⟨h1,h2⟩:=h;unfold vga ZLa;rw[zQa l Kba (.inl ()) .inr]
 .simp only[Option.bind_some,kra,qfa,VJa,dec60f];by_cases h6:60 < l.length <;> simp[h6]
 .unfold q5a;rw[zRa];rfl
 intro i f hf;have hi:=zUa hf;obtain ⟨hn,hv⟩:=h2 f (List.mem_of_getElem? hf);unfold q5a Kba;rw[kqa hf,zJa hf];simp only[cond_true,Option.bind_some,jna _ _ hn hv,kia,kra,sc i (by omega)];show (bif yDa f !=0 then _ else _)=_;cases yDa f !=0 <;> rfl
theorem j2a(l:List zha)(h:(ZLa l).Code=0):¬60 < l.length/\zFa Kba 0 l=none/\∀f∈l,yDa f=0:=by
 unfold ZLa at h;by_cases h6:60 < l.length
 .rw[if_pos h6]at h;simp at h
 rw[if_neg h6]at h;cases hq:zFa Kba 0 l with
 | some y=>
  rw[hq]at h;obtain ⟨i,f,h1,h2⟩:=Zqa hq;unfold Kba at h2;exfalso;by_cases hc:yDa f=0
  .simp[hc]at h2
  have:(yDa f !=0)=true:=by simpa using hc
  rw[this]at h2;simp at h2;subst h2;exact hc h
 | none=>
  refine ⟨h6,rfl,fun f hf=>?_⟩;obtain ⟨i,hi⟩:=List.getElem?_of_mem hf;have:=v6a.1 hq i f hi;unfold Kba at this;simpa using this
theorem zGb{f:zha}(h:yDa f=0):f.Name.length<=60/\f.Value.length<=4000/\vab f.Name f.Value=(flP f.Name f.Value,⟨0,0⟩)/\∀l∈flP f.Name f.Value,l.length<=998:=by
 have h0:=h;rw[Q0a]at h;unfold vbb at h;have h1:fnP f.Name=true:=by cases hx:fnP f.Name with
  | true=>rfl
  | false=>rw[hx]at h;simp at h
 rw[h1]at h;simp only[Bool.not_true,Bool.false_eq_true,if_false]at h;have h2:¬4000 < f.Value.length:=by intro hx;rw[if_pos hx]at h;simp at h
 rw[if_neg h2]at h;have h3:valP f.Value=true:=by cases hx:valP f.Value with
  | true=>rfl
  | false=>rw[hx]at h;simp at h
 rw[h3]at h;simp only[Bool.not_true,Bool.false_eq_true,if_false]at h;have h4:zFb (flP f.Name f.Value)=false:=by cases hx:zFb (flP f.Name f.Value) with
  | false=>rfl
  | true=>rw[hx]at h;simp at h
 refine ⟨?_,by omega,?_,?_⟩
 .unfold fnP at h1;simp only[Bool.and_eq_true,decide_eq_true_eq]at h1;exact h1.1.2
 .unfold vab;rw[h1,h3];simp only[Bool.not_true,Bool.false_eq_true,if_false,if_neg h2];have:=Jya (flP f.Name f.Value) 0;rw[h4]at this;cases hx:zFa Yda 0 (flP f.Name f.Value) with
  | none=>rfl
  | some y=>rw[hx]at this;cases this
 intro l hl;unfold zFb at h4;rw[List.any_eq_false]at h4;have:=h4 l hl;simp at this;omega
def addL(a:List UInt8)(l:Str):List UInt8:=a++l++ [13,10]
def addF(a:List UInt8)(f:zha):List UInt8:=(flP f.Name f.Value).foldl addL a
def z1a(m:zsa):List UInt8:=m.Fields.foldl addF []++ [13,10]++m.Body
theorem v5b(l:List Str)(acc:List UInt8)(hl:l.length<=5000)(h9:∀s∈l,s.length<=998)(ha:acc.length<=1000000000){body:Int × List UInt8->Option (Step (Int × List UInt8) (List UInt8))}
 (h0:∀s,body ((l.length:Int),s)=some (.out s)) (h1:∀(i:Nat) x s,l[i]? =some x->s.length<=1006000000->body ((i:Int),s)=some (.cont (((i+1:Nat):Int),addL s x))):iter body (0,acc)=some (l.foldl addL acc)/\(l.foldl addL acc).length<=acc.length+1000 * l.length:=
 yYa l (fun i s=>(i,s)) addL id (fun i s=>s.length<=acc.length+1000 * i) (body:=body) (fun s _=>h0 s) (fun i x s hx hi=>by
  have hlt:=zUa hx;have h9x:=h9 x (List.mem_of_getElem? hx);refine ⟨h1 i x s hx (by omega),?_⟩;unfold addL;simp;omega) acc (by simp)
theorem kGb(l:List zha)(hl:l.length<=60)(hc:∀f∈l,yDa f=0){body:Int × List UInt8->Option (Step (Int × List UInt8) (List UInt8))}
 (h0:∀s,body ((l.length:Int),s)=some (.out s)) (h1:∀(i:Nat) f s,l[i]? =some f->s.length<=1000000000->body ((i:Int),s)=some (.cont (((i+1:Nat):Int),addF s f))/\(addF s f).length<=s.length+5000000):iter body (0,([]:List UInt8))=some (l.foldl addF [])/\(l.foldl addF []).length<=5000000 * l.length:=
 yYa l (fun i s=>(i,s)) addF id (fun i s=>s.length<=5000000 * i) (body:=body) (fun s _=>h0 s) (fun i f s hf hi=>by
  have hlt:=zUa hf;obtain ⟨q1,q2⟩:=h1 i f s hf (by omega);exact ⟨q1,by omega⟩) [] (by simp)
theorem Wna(m:zsa)(hb:m.Body.length<=1048576)(h60:m.Fields.length<=60)(hc:∀f∈m.Fields,yDa f=0):wpa m=some (z1a m):=by
 unfold wpa z1a;obtain ⟨h1,h2⟩:=kGb m.Fields h60 hc (body:=qQa m) (fun s=>by unfold qQa;rw[zRa];rfl) (fun i f s hf hs=>by
  have hi:=zUa hf;obtain ⟨c1,c2,c3,c4⟩:=zGb (hc f (List.mem_of_getElem? hf));have hfl:=v4b f.Name f.Value;obtain ⟨q1,q2⟩:=v5b (flP f.Name f.Value) s (by omega) c4 hs (body:=qPa (vab f.Name f.Value)) (fun s=>by unfold qPa;rw[c3,zRa];rfl) (fun k x s hx hs=>by
   have hk:=zUa hx;have:=c4 x (List.mem_of_getElem? hx);unfold qPa;rw[c3,kqa hx,zJa hx];simp only[cond_true,Option.bind_some,sc k (by omega)];rw[zYa (by omega)];simp only[Option.bind_some];rw[zYa (by simp;omega)];rfl)
  unfold addF;refine ⟨?_,by omega⟩;unfold qQa;rw[kqa hf,zJa hf];simp only[cond_true,Option.bind_some,jna f.Name f.Value (by omega) (by omega),q1,sc i (by omega)])
 rw[h1];simp only[Option.bind_some];rw[zYa (by simp;omega)];simp only[Option.bind_some];rw[zYa (by simp;omega)];rfl
theorem wSa(m:zsa)(hb:m.Body.length<=1048576)(h60:m.Fields.length<=60)(hc:∀f∈m.Fields,yDa f=0):qha m=some (z1a m):=by
 unfold qha z1a;obtain ⟨h1,h2⟩:=kGb m.Fields h60 hc (body:=qya m) (fun s=>by unfold qya;rw[zRa];rfl) (fun i f s hf hs=>by
  have hi:=zUa hf;obtain ⟨c1,c2,c3,c4⟩:=zGb (hc f (List.mem_of_getElem? hf));have hfl:=v4b f.Name f.Value;obtain ⟨q1,q2⟩:=v5b (flP f.Name f.Value) s (by omega) c4 hs (body:=qxa (flP f.Name f.Value)) (fun s=>by unfold qxa;rw[zRa];rfl) (fun k x s hx hs=>by
   have hk:=zUa hx;have:=c4 x (List.mem_of_getElem? hx);unfold qxa;rw[kqa hx,zJa hx];simp only[cond_true,Option.bind_some,sc k (by omega)];rw[zYa (by omega)];simp only[Option.bind_some];rw[zYa (by simp;omega)];rfl)
  unfold addF;refine ⟨?_,by omega⟩;unfold qya;rw[kqa hf,zJa hf];simp only[cond_true,Option.bind_some,Kaa f.Name f.Value (by omega) (by omega),q1,sc i (by omega)])
 rw[h1];simp only[Option.bind_some];rw[zYa (by simp;omega)];simp only[Option.bind_some];rw[zYa (by simp;omega)];rfl
def KGa:Nat->List UInt8->Option Bool
 | _,[]=>none
 | c,[x]=>if x==13 || x==10 then some true else if 998 < c+1 then some false else none
 | c,x::y::r=>if x==13 && y==10 then KGa 0 r else if x==13 || x==10 then some true else if 998 < c+1 then some false else KGa (c+1) (y::r)
def Q2a{O:Type}(e:Bool->O)(c i:Nat)(x:UInt8)(r:List UInt8):Step (Int × Int) (Unit ⊕ O):=
 if x==13 && r.head? ==some 10 then .cont (0,((i+2:Nat):Int)) else if x==13 || x==10 then .out (.inr (e true)) else if 998 < c+1 then .out (.inr (e false)) else .cont (((c+1:Nat):Int),((i+1:Nat):Int))
theorem kHb{O:Type}(e:Bool->O)(l:List UInt8){body:Int × Int->Option (Step (Int × Int) (Unit ⊕ O))}
 (h0:∀c,body (c,(l.length:Int))=some (.out (.inl ())))
 (hs:∀(c:Nat) (p:List UInt8) x r,l=p++x::r->c<=998->body ((c:Int),(p.length:Int))=some (Q2a e c p.length x r)):
 ∀(n:Nat) (r p:List UInt8) (c:Nat),r.length<=n->l=p++r->c<=998->iter body ((c:Int),(p.length:Int))=some ((KGa c r).elim (.inl ()) fun b=>.inr (e b)):=by
 intro n;induction n with
 | zero=>
  intro r p c hr hl hc;obtain rfl:r=[]:=List.length_eq_zero_iff.1 (by omega);have:p=l:=by simp[hl]
  subst this;exact zGa (h0 _)
 | succ n ih=>
  intro r p c hr hl hc
  match r,hr,hl with
  | [],_,hl=>
   have:p=l:=by simp[hl]
   subst this;exact zGa (h0 _)
  | [x],hr,hl=>
   have hb:=hs c p x [] hl hc;unfold Q2a at hb;have e1:(x==13 && ([]:List UInt8).head? ==some 10)=false:=by simp
   rw[e1]at hb;simp only[Bool.false_eq_true,if_false]at hb;unfold KGa;cases hx:(x==13 || x==10) with
   | true=>rw[hx]at hb;exact zGa hb
   | false=>
    rw[hx]at hb;simp only[Bool.false_eq_true,if_false]at hb ⊢;by_cases h9:998 < c+1
    .rw[if_pos h9]at hb ⊢;exact zGa hb
    rw[if_neg h9]at hb ⊢;rw[zNa hb];have:=ih [] (p++ [x]) (c+1) (by simp) (by simp[hl]) (by omega);rw[List.length_append]at this;exact this
  | x::y::r,hr,hl=>
   have hb:=hs c p x (y::r) hl hc;unfold Q2a at hb;have e1:((y::r).head? ==some (10:UInt8))=(y==10):=by simp
   rw[e1]at hb;unfold KGa;cases hxy:(x==13 && y==10) with
   | true=>
    rw[hxy]at hb;simp only[if_true]at hb ⊢;rw[zNa hb];have:=ih r (p++ [x,y]) 0 (by simp at hr;omega) (by simp[hl]) (by omega);rw[List.length_append]at this;exact this
   | false=>
    rw[hxy]at hb;simp only[Bool.false_eq_true,if_false]at hb ⊢;cases hx:(x==13 || x==10) with
    | true=>rw[hx]at hb;exact zGa hb
    | false=>
     rw[hx]at hb;simp only[Bool.false_eq_true,if_false]at hb ⊢;by_cases h9:998 < c+1
     .rw[if_pos h9]at hb ⊢;exact zGa hb
     rw[if_neg h9]at hb ⊢;rw[zNa hb];have:=ih (y::r) (p++ [x]) (c+1) (by simp at hr ⊢;omega) (by simp[hl]) (by omega);rw[List.length_append]at this;exact this
theorem jCb{l p r:List UInt8}{x:UInt8}(h:l=p++x::r)(hl:l.length<=1048576):(bif decide (((p.length+1:Nat):Int) < (l.length:Int)) then (idx l ((p.length+1:Nat):Int)).bind fun v13=>some (((v13.toNat:Int)==10)) else some false)=some (r.head? ==some 10):=by
 subst h;simp at hl;cases r with
 | nil=>
  have:decide (((p.length+1:Nat):Int) < ((p++ [x]).length:Int))=false:=by simp
  rw[this];rfl
 | cons y r=>
  have:decide (((p.length+1:Nat):Int) < ((p++x::y::r).length:Int))=true:=by simp;omega
  rw[this,v5a];have:(p++x::y::r)[p.length+1]? =some y:=by simp[List.getElem?_append_right]
  rw[this];simp only[cond_true,Option.bind_some,qEa y 10 (by decide)];simp
theorem zHb(l:List UInt8)(hl:l.length<=1048576):jWa l=some ((KGa 0 l).elim 0 fun b=>bif b then 11 else 1):=by
 unfold jWa;have:=kHb (fun b:Bool=>bif b then (11:Int) else 1) l (body:=vxa l) (fun c=>by unfold vxa;rw[zRa];rfl) (fun c p x r h hc=>by
  have hx:l[p.length]? =some x:=by simp[h]
  have hi:=zUa hx;unfold vxa wqa Q2a;dsimp only;rw[kqa hx,zJa hx];simp only[cond_true,Option.bind_some,qEa x 13 (by decide),qEa x 10 (by decide),sc p.length (by omega),sc (p.length+1) (by omega),sc c (by omega)];rw[jCb h hl];have h9:decide ((998:Int) < ((c+1:Nat):Int))=decide (998 < c+1):=by rw[Bool.eq_iff_iff];simp;omega
  rw[h9];by_cases h98:998 < c+1 <;> simp only[h98,decide_true,decide_false,if_true,if_false] <;> cases x==13 <;> cases x==10 <;> cases r.head? ==some 10 <;> rfl) l.length l [] 0 (Nat.le_refl _) rfl (by omega)
 have h2:iter (vxa l) (0,0)=_:=this;rw[h2];cases KGa 0 l with
 | none=>rfl
 | some b=>cases b <;> rfl
def jDb(l:List UInt8):zva:=(KGa 0 l).elim ⟨0,0⟩ fun b=>bif b then ⟨11, -5⟩ else ⟨1, -6⟩
theorem Yea(l:List UInt8)(hl:l.length<=1048576):yaa l=some (jDb l):=by
 unfold yaa jDb;rw[zHb l hl];cases KGa 0 l with
 | none=>rfl
 | some b=>cases b <;> rfl
def msgF(m:zsa):zva:=if (ZLa m.Fields).Code !=0 then ZLa m.Fields else if 12000 < (z1a m).length then ⟨1, -4⟩ else jDb m.Body
def Yfa(m:zsa):Prop:=smallF m.Fields/\m.Body.length<=1048576
theorem Qxa(m:zsa)(h:Yfa m):qRa m=some (msgF m):=by
 obtain ⟨h1,h2⟩:=h;unfold qRa msgF;rw[Q1a _ h1];simp only[Option.bind_some,kia,kra,Yea _ h2];cases hc:(ZLa m.Fields).Code !=0 with
 | true=>rfl
 | false=>
  obtain ⟨q1,q2,q3⟩:=j2a m.Fields (by simpa using hc);rw[Wna m h2 (by omega) q3];simp only[Option.bind_some,cond_false,Bool.false_eq_true,if_false];have:decide ((12000:Int) < ((z1a m).length:Int))=decide (12000 < (z1a m).length):=by generalize (z1a m).length=n;rw[Bool.eq_iff_iff];simp;omega
  rw[this];by_cases hb:12000 < (z1a m).length <;> simp[hb]
theorem j3a(m:zsa)(h:Yfa m):qia m=some (msgF m):=by
 obtain ⟨⟨h1,h3⟩,h2⟩:=h;unfold qia msgF;rw[zQa m.Fields Kba (.inl ()) .inr]
 .have hbl:iter (kZa m) (0,0)=_:=kHb (fun b:Bool=>bif b then (⟨11, -5⟩:zva) else ⟨1, -6⟩) m.Body (body:=kZa m) (fun c=>by unfold kZa;rw[zRa];rfl) (fun c p x r h hc=>by
   have hx:m.Body[p.length]? =some x:=by simp[h]
   have hi:=zUa hx;unfold kZa qza Q2a;dsimp only;rw[kqa hx,zJa hx];simp only[cond_true,Option.bind_some,qEa x 13 (by decide),qEa x 10 (by decide),sc p.length (by omega),sc (p.length+1) (by omega),sc c (by omega),jAa];rw[jCb h h2];have h9:decide ((998:Int) < ((c+1:Nat):Int))=decide (998 < c+1):=by rw[Bool.eq_iff_iff];simp;omega
   rw[h9];by_cases h98:998 < c+1 <;> simp only[h98,decide_true,decide_false,if_true,if_false] <;> cases x==13 <;> cases x==10 <;> cases r.head? ==some 10 <;> rfl) m.Body.length m.Body [] 0 (Nat.le_refl _) rfl (by omega)
  rw[hbl,dec60f];simp only[Option.bind_some,jAa];by_cases h6:60 < m.Fields.length
  .have:ZLa m.Fields=⟨2, -1⟩:=by unfold ZLa;rw[if_pos h6]
   rw[this];simp[h6]
  simp only[h6,decide_false,cond_false];have hh:ZLa m.Fields=(zFa Kba 0 m.Fields).getD ⟨0,0⟩:=by unfold ZLa;rw[if_neg h6]
  cases hq:zFa Kba 0 m.Fields with
  | some y=>
   rw[hq]at hh;have hc:((ZLa m.Fields).Code !=0)=true:=by
    cases hc:(ZLa m.Fields).Code !=0 with
    | true=>rfl
    | false=>
     obtain ⟨_,q2,_⟩:=j2a m.Fields (by simpa using hc);rw[hq]at q2;cases q2
   rw[hc,hh];rfl
  | none=>
   rw[hq]at hh;have hz:ZLa m.Fields=⟨0,0⟩:=hh;obtain ⟨q1,q2,q3⟩:=j2a m.Fields (by rw[hz]);rw[wSa m h2 (by omega) q3,hz];simp only[Option.bind_some,Option.elim_none,Sum.elim_inl];have hbb:m.Body.length<=(z1a m).length:=by unfold z1a;simp;omega
   have e2:(bif decide ((12000:Int) < (m.Body.length:Int)) then some true else some (decide ((12000:Int) < ((z1a m).length:Int))))=some (decide (12000 < (z1a m).length)):=by
    generalize (z1a m).length=n at *;by_cases hx:12000 < m.Body.length
    .have e3:decide ((12000:Int) < (m.Body.length:Int))=true:=by rw[decide_eq_true_eq];omega
     have e4:decide (12000 < n)=true:=by rw[decide_eq_true_eq];omega
     rw[e3,e4];rfl
    have e3:decide ((12000:Int) < (m.Body.length:Int))=false:=by rw[decide_eq_false_iff_not];omega
    rw[e3];simp only[cond_false,Option.some.injEq];rw[Bool.eq_iff_iff];simp;omega
   rw[e2];simp only[Option.bind_some];unfold jDb;by_cases hb:12000 < (z1a m).length
   .simp[hb]
   simp only[hb,decide_false,cond_false,if_false];cases KGa 0 m.Body <;> rfl
 .unfold vya;rw[zRa];rfl
 intro i f hf;have hi:=zUa hf;obtain ⟨hn,hv⟩:=h3 f (List.mem_of_getElem? hf);unfold vya Kba;rw[kqa hf,zJa hf];simp only[cond_true,Option.bind_some,K2a _ hn hv,jAa,sc i (by omega)];cases yDa f !=0 <;> rfl
def add1(o:List Str)(x:Str):List Str:=if o.contains x then o else o++ [x]
def Yga(o xs:List Str):List Str:=xs.foldl add1 o
theorem add1_mem(o:List Str)(x y:Str):y∈add1 o x↔y∈o∨y=x:=by
 unfold add1;split
 .rename_i h;simp at h;constructor
  .exact .inl
  rintro (h1 | rfl)
  .exact h1
  exact h
 simp
theorem vcb(o:List Str)(x:Str):o <+:add1 o x:=by
 unfold add1;split
 .exact List.prefix_refl _
 exact List.prefix_append _ _
theorem w2b{o:List Str}(h:o.Nodup)(x:Str):(add1 o x).Nodup:=by
 unfold add1;split
 .exact h
 rename_i hx;simp at hx;rw[List.nodup_append];exact ⟨h,by simp,fun a ha b hb hab=>by simp at hb;subst hb;subst hab;exact hx ha⟩
theorem Jza(xs:List Str):∀(o:List Str) (y:Str),y∈Yga o xs↔y∈o∨y∈xs:=by
 induction xs with
 | nil=>intro o y;simp[Yga]
 | cons x xs ih=>intro o y;show y∈Yga (add1 o x) xs↔_;rw[ih,add1_mem];simp[or_assoc]
theorem zIb(xs:List Str):∀o:List Str,o <+:Yga o xs:=by
 induction xs with
 | nil=>intro o;exact List.prefix_refl _
 | cons x xs ih=>intro o;exact (vcb o x).trans (ih _)
theorem Wba(xs:List Str):∀{o:List Str},o.Nodup->(Yga o xs).Nodup:=by
 induction xs with
 | nil=>intro o h;exact h
 | cons x xs ih=>intro o h;exact ih (w2b h x)
theorem nodup_le{l m:List Str}(hl:l.Nodup)(h:∀x∈l,x∈m):l.length<=m.length:=by
 induction l generalizing m with
 | nil=>simp
 | cons x l ih=>
  have hx:x∈m:=h x (by simp);obtain ⟨hxl,hl'⟩:=List.nodup_cons.1 hl;have:=ih (m:=m.erase x) hl' (fun y hy=>by
   have hne:y≠x:=by rintro rfl;exact hxl hy
   exact (List.mem_erase_of_ne hne).2 (h y (by simp[hy])))
  rw[List.length_erase_of_mem hx]at this;have:0 < m.length:=List.length_pos_of_mem hx;simp;omega
def tgtO(l:List ySa)(s:Str):Option (List Str):=(l.find? (fun a=>a.Address==s)).map (·.To)
def tgt(l:List ySa)(s:Str):List Str:=(tgtO l s).getD []
def univ(l:List ySa)(from_:List Str):List Str:=from_++l.flatMap (·.To)
theorem tgt_sub(l:List ySa)(s x:Str)(h:x∈tgt l s):∃a∈l,a.Address=s/\x∈a.To:=by
 unfold tgt tgtO at h;cases hf:l.find? (fun a=>a.Address==s) with
 | none=>rw[hf]at h;simp at h
 | some a=>
  rw[hf]at h;have:=List.find?_some hf;exact ⟨a,List.mem_of_find?_eq_some hf,by simpa using this,by simpa using h⟩
structure Inv (l:List ySa) (U:List Str) (k:Nat) (out:List Str):Prop where
 nd:out.Nodup
 sub:∀x∈out,x∈U
 le:k<=out.length
theorem Inv.len{l:List ySa}{U:List Str}{k:Nat}{out:List Str}(h:Inv l U k out):out.length<=U.length:=nodup_le h.nd h.sub
theorem Inv.step{l:List ySa}{from_:List Str}{k:Nat}{out:List Str}(h:Inv l (univ l from_) k out){s:Str}(hs:out[k]? =some s):Inv l (univ l from_) (k+1) (Yga out (tgt l s)):=by
 refine ⟨Wba _ h.nd,fun x hx=>?_,?_⟩
 .rcases (Jza _ _ _).1 hx with h1 | h1
  .exact h.sub x h1
  obtain ⟨a,ha,_,hxa⟩:=tgt_sub l s x h1;exact List.mem_append.2 (.inr (List.mem_flatMap.2 ⟨a,ha,hxa⟩))
 have:=(zIb (tgt l s) out).length_le;have:=zUa hs;omega
theorem Inv.start(l:List ySa)(from_:List Str):Inv l (univ l from_) 0 (Yga [] from_):=
 ⟨Wba _ List.nodup_nil,fun x hx=>by
  rcases (Jza _ _ _).1 hx with h1 | h1
  .simp at h1
  exact List.mem_append.2 (.inl h1),Nat.zero_le _⟩
instance:DecidableEq zca:=fun a b=>decidable_of_iff (a.Address=b.Address/\a.Notify=b.Notify) (by cases a;cases b;simp)
instance:DecidableEq zva:=fun a b=>decidable_of_iff (a.Code=b.Code/\a.Index=b.Index) (by cases a;cases b;simp)
instance:DecidableEq zEa:=fun a b=>decidable_of_iff (a.From=b.From/\a.To=b.To/\a.Id=b.Id) (by cases a;cases b;simp)
def Q3a(a b:Int)(s:Int × Int):Int × Int:=(bif (iRem (iQuo a s.2) 2==1 || iRem (iQuo b s.2) 2==1) then w64 (s.1+s.2) else s.1,w64 (2 * s.2))
def vdb(a b:Int):Int:=(Q3a a b (Q3a a b (Q3a a b (0,1)))).1
theorem Yha(a b n k:Int)(hk:k<=4)(h0:(k==0)=false):yTa a b (n,k)=some (.cont (Q3a a b (n,k))):=by
 unfold yTa Q3a;have h1:decide (k<=4)=true:=by simp;exact hk
 have h2:nz k=some true:=by unfold nz;rw[h0];rfl
 dsimp only;rw[h1,h2];simp only[cond_true,Option.bind_some];cases iRem (iQuo a k) 2==1 <;> cases iRem (iQuo b k) 2==1 <;> rfl
theorem veb(a b:Int):zsb a b=some (vdb a b):=by
 unfold zsb;have e1:(Q3a a b (0,1)).2=2:=show w64 (2 * 1)=2 by decide
 have e2:∀n,(Q3a a b (n,2)).2=4:=fun n=>show w64 (2 * 2)=4 by decide
 have e3:∀n,(Q3a a b (n,4)).2=8:=fun n=>show w64 (2 * 4)=8 by decide
 rw[zNa (Yha a b 0 1 (by decide) (by decide))];have f1:Q3a a b (0,1)=((Q3a a b (0,1)).1,2):=Prod.ext rfl e1;rw[f1,zNa (Yha a b _ 2 (by decide) (by decide))];have f2:∀n,Q3a a b (n,2)=((Q3a a b (n,2)).1,4):=fun n=>Prod.ext rfl (e2 n)
 rw[f2,zNa (Yha a b _ 4 (by decide) (by decide))];have f3:∀n,Q3a a b (n,4)=((Q3a a b (n,4)).1,8):=fun n=>Prod.ext rfl (e3 n)
 rw[f3];have hlast:∀n:Int,yTa a b (n,8)=some (.out n):=by intro n;unfold yTa;rfl
 rw[zGa (hlast _)];unfold vdb;rw[f1,f2];rfl
theorem w3b:∀a b:Fin 8,vdb (a.val:Int) (b.val:Int)=iOr (a.val:Int) (b.val:Int)/\kUa (vdb (a.val:Int) (b.val:Int))=true:=by decide+kernel
theorem v6b{n:Int}(h:kUa n=true):∃a:Fin 8,n=(a.val:Int):=by
 unfold kUa at h;simp at h;exact ⟨⟨n.toNat,by omega⟩,by simp;omega⟩
theorem jEb{a b:Int}(ha:kUa a=true)(hb:kUa b=true):vdb a b=iOr a b/\kUa (iOr a b)=true:=by
 obtain ⟨x,rfl⟩:=v6b ha;obtain ⟨y,rfl⟩:=v6b hb;obtain ⟨h1,h2⟩:=w3b x y;exact ⟨h1,h1▸h2⟩
def orL(n:Int)(l:List zca):Int:=l.foldl (fun n r=>iOr n r.Notify) n
def z7a(s:Str)(r:zca):Bool:=r.Address==s
def j4a:Nat->List zca->List zca
 | 0,_=>[]
 | _,[]=>[]
 | n+1,r::t=>⟨r.Address,orL r.Notify (t.filter (z7a r.Address))⟩::j4a n (t.filter fun x=> !z7a r.Address x)
theorem zJb:∀(n m:Nat) (l:List zca),l.length<=n->l.length<=m->j4a n l=j4a m l:=by
 intro n;induction n with
 | zero=>intro m l h1 h2;have:l=[]:=List.length_eq_zero_iff.1 (by omega);subst this;cases m <;> rfl
 | succ n ih=>
  intro m l h1 h2;cases l with
  | nil=>cases m <;> rfl
  | cons r t=>
   cases m with
   | zero=>simp at h2
   | succ m=>
    unfold j4a
    congr 1
    have:=List.length_filter_le (fun x=> !z7a r.Address x) t;simp at h1 h2;exact ih m _ (by omega) (by omega)
def wea(l:List zca):List zca:=j4a l.length l
theorem Zta(r:zca)(t:List zca):wea (r::t)=⟨r.Address,orL r.Notify (t.filter (z7a r.Address))⟩::wea (t.filter fun x=> !z7a r.Address x):=by
 unfold wea;rw[List.length_cons,j4a]
 congr 1
 have:=List.length_filter_le (fun x=> !z7a r.Address x) t;exact zJb _ _ _ this (Nat.le_refl _)
def hasA(out:List zca)(s:Str):Bool:=out.any (z7a s)
def putR(out:List zca)(r:zca):List zca:=if hasA out r.Address then out.map (fun x=>if z7a r.Address x then ⟨x.Address,iOr x.Notify r.Notify⟩ else x) else out++ [r]
theorem w4b:∀(l out:List zca),l.foldl putR out=out.map (fun x=>⟨x.Address,orL x.Notify (l.filter (z7a x.Address))⟩)++wea (l.filter fun x=> !hasA out x.Address):=by
 intro l;induction l with
 | nil=>intro out;simp[orL,wea,j4a]
 | cons r t ih=>
  intro out;rw[List.foldl_cons,ih];unfold putR;cases hh:hasA out r.Address with
  | true=>
   simp only[if_true,List.map_map];have hs:∀s,hasA (out.map fun x=>if z7a r.Address x then (⟨x.Address,iOr x.Notify r.Notify⟩:zca) else x) s=hasA out s:=by
    intro s;unfold hasA;rw[List.any_map]
    congr 1
    funext x;show z7a s (if z7a r.Address x then _ else x)=z7a s x;by_cases hq:z7a r.Address x=true
    .rw[if_pos hq];rfl
    rw[if_neg hq]
   have h1:(r::t).filter (fun x=> !hasA out x.Address)=t.filter fun x=> !hasA out x.Address:=by rw[List.filter_cons,hh];rfl
   rw[h1];simp only[hs]
   congr 1
   apply List.map_congr_left;intro x hx;simp only[Function.comp];by_cases hr:z7a r.Address x=true
   .rw[if_pos hr];have:r.Address=x.Address:=by simpa[z7a]using (beq_iff_eq.1 hr).symm
    have h2:(r::t).filter (z7a x.Address)=r::t.filter (z7a x.Address):=by
     rw[List.filter_cons];simp[z7a,this]
    rw[h2];rfl
   rw[if_neg hr];have h2:(r::t).filter (z7a x.Address)=t.filter (z7a x.Address):=by
    rw[List.filter_cons];have:z7a x.Address r=false:=by
     rw[Bool.eq_false_iff];intro h;exact hr (by simp[z7a]at h ⊢;exact h.symm)
    rw[this];rfl
   rw[h2]
  | false=>
   simp only[Bool.false_eq_true,if_false,List.map_append,List.map_cons,List.map_nil,List.append_assoc];have h1:(r::t).filter (fun x=> !hasA out x.Address)=r::t.filter fun x=> !hasA out x.Address:=by rw[List.filter_cons,hh];rfl
   rw[h1,Zta];have hno:∀x∈out,z7a x.Address r=false:=by
    intro x hx;unfold hasA at hh;rw[List.any_eq_false]at hh;have:=hh x hx;rw[Bool.eq_false_iff];intro h;exact this (by simp[z7a]at h ⊢;exact h.symm)
   congr 1
   .apply List.map_congr_left;intro x hx;rw[List.filter_cons,hno x hx];rfl
   have h3:(t.filter fun x=> !hasA out x.Address).filter (z7a r.Address)=t.filter (z7a r.Address):=by
    rw[List.filter_filter];apply List.filter_congr;intro x hx;by_cases hs:z7a r.Address x=true
    .have:x.Address=r.Address:=by simpa[z7a]using hs
     rw[hs,this,hh];rfl
    rw[Bool.not_eq_true]at hs;rw[hs];rfl
   have h4:(t.filter fun x=> !hasA out x.Address).filter (fun x=> !z7a r.Address x)=t.filter fun x=> !hasA (out++ [r]) x.Address:=by
    rw[List.filter_filter];apply List.filter_congr;intro x hx;unfold hasA;rw[List.any_append];simp only[List.any_cons,List.any_nil,Bool.or_false,Bool.not_or];have:z7a x.Address r=z7a r.Address x:=by unfold z7a;rw[Bool.eq_iff_iff];simp;exact ⟨fun h=>h.symm,fun h=>h.symm⟩
    rw[this,Bool.and_comm]
   rw[h3,h4];rfl
theorem put_all(l:List zca):l.foldl putR []=wea l:=by
 rw[w4b];have:l.filter (fun x=> !hasA [] x.Address)=l:=List.filter_eq_self.2 (fun x _=>by simp[hasA]);rw[this];rfl
def refM:List zca->List zca->List zca
 | out,[]=>out
 | out,r::t=>refM (if hasA out r.Address then out else out++ [⟨r.Address,orL r.Notify (t.filter (z7a r.Address))⟩]) t
theorem refM_eq:∀(l out:List zca),refM out l=out++wea (l.filter fun x=> !hasA out x.Address):=by
 intro l;induction l with
 | nil=>intro out;simp[refM,wea,j4a]
 | cons r t ih=>
  intro out;unfold refM;rw[ih];cases hh:hasA out r.Address with
  | true=>
   simp only[if_true];rw[List.filter_cons,hh];rfl
  | false=>
   simp only[Bool.false_eq_true,if_false];have h1:(r::t).filter (fun x=> !hasA out x.Address)=r::t.filter fun x=> !hasA out x.Address:=by rw[List.filter_cons,hh];rfl
   rw[h1,Zta,List.append_assoc];have h3:(t.filter fun x=> !hasA out x.Address).filter (z7a r.Address)=t.filter (z7a r.Address):=by
    rw[List.filter_filter];apply List.filter_congr;intro x hx;by_cases hs:z7a r.Address x=true
    .have:x.Address=r.Address:=by simpa[z7a]using hs
     rw[hs,this,hh];rfl
    rw[Bool.not_eq_true]at hs;rw[hs];rfl
   have h4:(t.filter fun x=> !hasA out x.Address).filter (fun x=> !z7a r.Address x)=t.filter fun x=> !hasA (out++ [⟨r.Address,orL r.Notify (t.filter (z7a r.Address))⟩]) x.Address:=by
    rw[List.filter_filter];apply List.filter_congr;intro x hx;unfold hasA;rw[List.any_append];simp only[List.any_cons,List.any_nil,Bool.or_false,Bool.not_or];have:z7a x.Address (⟨r.Address,orL r.Notify (t.filter (z7a r.Address))⟩:zca)=z7a r.Address x:=by unfold z7a;rw[Bool.eq_iff_iff];simp;exact ⟨fun h=>h.symm,fun h=>h.symm⟩
    rw[this,Bool.and_comm]
   rw[h3,h4];rfl
theorem refM_all(l:List zca):refM [] l=wea l:=by
 rw[refM_eq];have:l.filter (fun x=> !hasA [] x.Address)=l:=List.filter_eq_self.2 (fun x _=>by simp[hasA]);rw[this];rfl
theorem w5b(s:Str):∀(l:List zca) (n:Int),kUa n=true->(∀r∈l,kUa r.Notify=true)->l.foldl (fun n r=>if r.Address==s then vdb n r.Notify else n) n=orL n (l.filter (z7a s)):=by
 intro l;induction l with
 | nil=>intro n _ _;rfl
 | cons r t ih=>
  intro n hn h;have hr:=h r (by simp);obtain ⟨e1,e2⟩:=jEb hn hr;rw[List.foldl_cons,List.filter_cons];unfold z7a;by_cases hs:(r.Address==s)=true
  .rw[if_pos hs,if_pos hs,ih _ (by rw[e1];exact e2) (fun x hx=>h x (by simp[hx])),e1];rfl
  rw[if_neg hs,if_neg hs,ih _ hn (fun x hx=>h x (by simp[hx]))];rfl
def mq(i:Nat)(r:zca):Option zva:=if !kGa r.Address then some ⟨10,i⟩ else if !kUa r.Notify then some ⟨3,i⟩ else none
def v7b(l:List zca):List zca × zva:=if 300 < l.length then ([],⟨2, -1⟩) else match zFa mq 0 l with | some f=>([],f) | none=>(wea l,⟨0,0⟩)
theorem vfb{α R:Type}(q:Nat->α->Option R)(i:Nat)(x:α)(r:List α):zFa q i (x::r)=match q i x with | some y=>some y | none=>zFa q (i+1) r:=rfl
def posA(out:List zca)(s:Str):Option Nat:=out.findIdx? (z7a s)
theorem zKb(out:List zca)(s:Str):(posA out s).isSome=hasA out s:=by unfold posA hasA;exact List.findIdx?_isSome
theorem posA_app(out:List zca)(r:zca)(s:Str)(h:hasA out r.Address=false):posA (out++ [r]) s=if r.Address==s then some out.length else posA out s:=by
 unfold posA;rw[List.findIdx?_append];by_cases hs:(r.Address==s)=true
 .rw[if_pos hs];have e:r.Address=s:=beq_iff_eq.1 hs;subst e;have:out.findIdx? (z7a r.Address)=none:=by
   have:=zKb out r.Address;rw[h]at this;unfold posA at this;simpa using this
  rw[this];simp[z7a]
 rw[if_neg hs];have:z7a s r=false:=by unfold z7a;simpa using hs
 simp[List.findIdx?_cons,this]
theorem posA_map(out:List zca)(f:zca->zca)(hf:∀x,(f x).Address=x.Address)(s:Str):posA (out.map f) s=posA out s:=by
 unfold posA;rw[List.findIdx?_map]
 congr 1
 funext x;simp[Function.comp,z7a,hf]
theorem posA_get:∀(out:List zca) (s:Str) (k:Nat),posA out s=some k->∃x,out[k]? =some x/\x.Address=s:=by
 intro out s k h;unfold posA at h;rw[List.findIdx?_eq_some_iff_getElem]at h;obtain ⟨h1,h2,_⟩:=h;exact ⟨out[k],List.getElem?_eq_getElem h1,by simpa[z7a]using h2⟩
theorem set_map(s:Str)(f:zca->zca):∀(out:List zca) (k:Nat) (x:zca),(out.map (·.Address)).Nodup->posA out s=some k->out[k]? =some x->out.set k (f x)=out.map (fun y=>if z7a s y then f y else y):=by
 intro out;induction out with
 | nil=>intro k x _ h;simp[posA]at h
 | cons y out ih=>
  intro k x hn hp hk;rw[List.map_cons,List.nodup_cons]at hn;unfold posA at hp;rw[List.findIdx?_cons]at hp;by_cases hy:z7a s y=true
  .rw[if_pos hy]at hp;cases hp;simp at hk;subst hk;rw[List.set_cons_zero,List.map_cons,if_pos hy]
   congr 1
   symm
   rw[List.map_congr_left (g:=id)]
   .simp
   intro z hz;have:¬z7a s z=true:=by
    intro h;have e1:y.Address=s:=by simpa[z7a]using hy
    have e2:z.Address=s:=by simpa[z7a]using h
    exact hn.1 (by rw[e1,<-e2];exact List.mem_map_of_mem hz)
   rw[if_neg this];rfl
  rw[if_neg hy]at hp;cases hq:out.findIdx? (z7a s) with
  | none=>rw[hq]at hp;simp at hp
  | some k' =>
   rw[hq]at hp;simp at hp;subst hp;rw[List.set_cons_succ,List.map_cons,if_neg hy,ih k' x hn.2 hq (by simpa using hk)]
structure MInv (i:Nat) (out:List zca) (m:List (Str × Int)):Prop where
 len:out.length<=i
 nd:(out.map (·.Address)).Nodup
 mp:∀s,mget m s=(posA out s).map fun k=>((k:Nat):Int)
theorem MInv.put{i:Nat}{out:List zca}{m:List (Str × Int)}(h:MInv i out m)(r:zca):MInv (i+1) (putR out r) (if hasA out r.Address then m else mput m r.Address (out.length:Int)):=by
 unfold putR;cases hh:hasA out r.Address with
 | true=>
  simp only[if_true];have hf:∀x:zca,(if z7a r.Address x then (⟨x.Address,iOr x.Notify r.Notify⟩:zca) else x).Address=x.Address:=by intro x;split <;> rfl
  refine ⟨by simp;have:=h.len;omega,?_,fun s=>?_⟩
  .rw[List.map_map,show ((·.Address) ∘ fun x:zca=>if z7a r.Address x then (⟨x.Address,iOr x.Notify r.Notify⟩:zca) else x)=(·.Address) from funext hf];exact h.nd
  rw[posA_map _ _ hf];exact h.mp s
 | false=>
  simp only[Bool.false_eq_true,if_false];refine ⟨by simp;exact h.len,?_,fun s=>?_⟩
  .rw[List.map_append,List.nodup_append];refine ⟨h.nd,by simp,?_⟩;intro a ha b hb;simp at hb;subst hb;rintro rfl;obtain ⟨x,hx,hxe⟩:=List.mem_map.1 ha;unfold hasA at hh;rw[List.any_eq_false]at hh;exact hh x hx (by simp[z7a,hxe])
  rw[wXb,posA_app _ _ _ hh,h.mp s];by_cases hs:(r.Address==s)=true
  .rw[if_pos hs,if_pos hs];rfl
  rw[if_neg hs,if_neg hs]
theorem VLa(l:List zca)(h:Jta l):vKa l=some (v7b l):=by
 obtain ⟨h3,h4⟩:=h;unfold vKa v7b;by_cases h300:300 < l.length
 .have:decide ((300:Int) < (l.length:Int))=true:=by simp;omega
  rw[this,if_pos h300];rfl
 have:decide ((300:Int) < (l.length:Int))=false:=by simp;omega
 rw[this,if_neg h300];simp only[cond_false];rw[VHa (body:=qwa l) (s0:=((0:Int),([]:List zca),([]:List (Str × Int)))) (S:=List zca × List (Str × Int)) l (fun i s=>((i:Int),s.1,s.2)) (fun i r s=>match zFa mq i r with | some f=>Sum.inr ([],f) | none=>Sum.inl (r.foldl putR s.1)) (fun i r s=>MInv i s.1 s.2)
  (fun s hi=>by unfold qwa;simp[zRa,zFa])
  (fun p x r s hl hi=>by
   have hx:l[p.length]? =some x:=by rw[hl];simp
   have hlt:=zUa hx;have ha:=h4 x (List.mem_of_getElem? hx);have hil:=hi.len;have hmp:=hi.mp x.Address;have hq0:mq p.length x=if !kGa x.Address then some ⟨10,(p.length:Int)⟩ else if !kUa x.Notify then some ⟨3,(p.length:Int)⟩ else none:=rfl;rw[vfb,hq0];unfold qwa;dsimp only;rw[kqa hx,zJa hx];simp only[cond_true,Option.bind_some,qNa _ (show x.Address.length < 4294967281 by omega),wya,kra];cases hA:kGa x.Address with
   | false=>left;rfl
   | true=>
    cases hN:kUa x.Notify with
    | false=>left;rfl
    | true=>
     right;simp only[Bool.not_true,cond_false,Bool.false_eq_true,if_false];refine ⟨(putR s.1 x,if hasA s.1 x.Address then s.2 else mput s.2 x.Address (s.1.length:Int)),?_,rfl,hi.put x⟩;unfold qva;rw[hmp];cases hp:posA s.1 x.Address with
     | some k=>
      obtain ⟨y,hy,hya⟩:=posA_get _ _ _ hp;have hh:hasA s.1 x.Address=true:=by rw[<-zKb,hp];rfl
      simp only[Option.map_some,Option.isSome_some,cond_true,Option.getD_some,zJa hy,Option.bind_some,Int.toNat_natCast,sc p.length (by omega),hh,if_true];unfold putR;rw[hh,if_pos rfl,set_map x.Address (fun y=>⟨y.Address,iOr y.Notify x.Notify⟩) s.1 k y hi.nd hp hy]
     | none=>
      have hh:hasA s.1 x.Address=false:=by rw[<-zKb,hp];rfl
      simp only[Option.map_none,Option.isSome_none,cond_false,hh,Bool.false_eq_true,if_false];rw[zYa (by simp;omega)];simp only[Option.bind_some,sc p.length (by omega)];unfold putR;rw[hh];rfl) ([],[]) rfl ⟨Nat.le_refl _,by simp,fun s=>rfl⟩]
 simp only[Option.bind_some,qfa,put_all];cases zFa mq 0 l with
 | some f=>rfl
 | none=>rfl
theorem vgb(l:List zca)(h:l.length<=1048576)(hn:∀r∈l,kUa r.Notify=true):ztb l=some (wea l):=by
 unfold ztb;rw[VHa (body:=Zka l) (s0:=((0:Int),([]:List zca))) (S:=List zca) l (fun i s=>((i:Int),s)) (fun i r s=>refM s r) (fun i r s=>s.length<=i)
  (fun s hi=>by unfold Zka;simp[zRa,refM])
  (fun p x r s hl hi=>by
   have hx:l[p.length]? =some x:=by rw[hl];simp
   have hlt:=zUa hx;have hnx:=hn x (List.mem_of_getElem? hx);right;refine ⟨_,?_,rfl,?_⟩
   .unfold Zka;dsimp only;rw[kqa hx,zJa hx];simp only[cond_true,Option.bind_some,Jua _ _ (show s.length<=1048576 by omega),sc p.length (by omega)];have hk:decide ((0:Int)<=(zFa (fun i y=>if y.Address==x.Address then some ((i:Nat):Int) else none) 0 s).getD (-1))=hasA s x.Address:=kzb (fun y=>y.Address==x.Address) s 0;rw[hk];cases hh:hasA s x.Address with
    | true=>rfl
    | false=>
     have hin:=zxb l (fun i (n:Int)=>(i,n)) (fun n y=>if y.Address==x.Address then vdb n y.Notify else n) (fun n=>n) (fun _ _=>True) (body:=Zja l x)
      (fun n _=>by unfold Zja;simp[zRa]) (fun i y n hy _=>by
       have hlt2:=zUa hy;refine ⟨?_,trivial⟩;unfold Zja;dsimp only;rw[kqa hy,zJa hy];simp only[cond_true,Option.bind_some,veb,sc i (by omega)];cases y.Address==x.Address <;> rfl) r (p++ [x]) x.Notify (by simp[hl]) trivial
     have e:(((p++ [x]).length:Nat):Int)=((p.length+1:Nat):Int):=by simp
     rw[e]at hin;rw[hin,w5b x.Address r x.Notify hnx (fun y hy=>hn y (by rw[hl];simp[hy]))];simp only[cond_false,Option.bind_some,Bool.false_eq_true,if_false];rw[zYa (by simp;omega)];rfl
   split
   .omega
   simp;omega) ([]:List zca) rfl (Nat.zero_le _)]
 simp only[Option.bind_some,refM_all]
theorem recF_ok(l:List zca)(h:(recF l).Code=0):recF l=⟨0,0⟩:=by
 unfold recF at h ⊢;cases hf:zFa (recQ l) 0 l with
 | none=>rfl
 | some f=>
  exfalso;obtain ⟨i,x,hx,hq⟩:=Zqa hf;rw[hf]at h;unfold recQ at hq;split at hq
  .cases hq;simp at h
  split at hq
  .cases hq;simp at h
  split at hq
  .cases hq;simp at h
  cases hq
theorem envF_ok(e:zEa)(h:(envF e).Code=0):envF e=⟨0,0⟩:=by
 unfold envF at h ⊢;split
 .rename_i h1;rw[if_pos h1]at h;simp at h
 rename_i h1;rw[if_neg h1]at h;split
 .rename_i h2;rw[if_pos h2]at h;simp at h
 rename_i h2;rw[if_neg h2]at h;split
 .rename_i h3;rw[if_pos h3]at h;simp at h
 rename_i h3;rw[if_neg h3]at h;exact recF_ok _ h
theorem jFb{m:zsa}(h:zsa.bk m<=1048576):Yfa m:=by
 unfold zsa.bk at h;have h1:=q4b (bk:=zha.bk) (fun x=>by unfold zha.bk;omega) m.Fields;have h2:=q4b (bk:=fun _:UInt8=>1) (fun x=>by simp) m.Body;refine ⟨⟨by omega,fun f hf=>?_⟩,by omega⟩;have h5:=jtb (bk:=zha.bk) hf;have h6:zha.bk f=f.Name.length+1+(f.Value.length+1)+1:=rfl;omega
def kIb(m:zVa):zva:=if (envF m.Envelope).Code !=0 then envF m.Envelope else if (msgF m.Message).Code !=0 then ⟨(msgF m.Message).Code, -30⟩ else ⟨0,0⟩
theorem Y3a(m:zVa)(h1:kAb m.Envelope)(h2:Yfa m.Message):yVa m=some (kIb m):=by
 unfold yVa kIb;rw[QYa _ h1,j3a _ h2];simp only[Option.bind_some,jAa];by_cases hc:(envF m.Envelope).Code=0
 .have hz:=envF_ok _ hc;rw[hz];cases h:(msgF m.Message).Code !=0 <;> simp[h]
 have e1:((envF m.Envelope).Code !=0)=true:=by simpa using hc
 have e2:((envF m.Envelope).Code==0)=false:=by simpa using hc
 rw[e1,e2];simp only[cond_false,Option.bind_some,if_true]
theorem map_fold{α β:Type}(f:α->β)(l:List α):∀o:List β,l.foldl (fun o x=>o++ [f x]) o=o++l.map f:=by
 induction l with
 | nil=>intro o;simp
 | cons x l ih=>intro o;simp[ih]
def lowC(c:UInt8):UInt8:=bif decide ((65:UInt8)<=c) && decide (c<=90) then c+97 - 65 else c
def lowP(s:Str):Str:=s.map lowC
theorem jCa(s:Str)(hs:s.length<=1048576):v3a s=some (lowP s):=by
 unfold v3a;have key:∀r p:Str,s=p++r->iter (qja s) ((p.length:Int),p.map lowC++r)=some (lowP s):=by
  intro r;induction r with
  | nil=>
   intro p h;have hp:p=s:=by simp[h]
   subst hp;refine zGa ?_;unfold qja;dsimp only;rw[zRa];simp[lowP]
  | cons c r ih=>
   intro p h;have hx:s[p.length]? =some c:=by simp[h]
   have hi:=zUa hx;have hx2:(p.map lowC++c::r)[p.length]? =some c:=by
    rw[List.getElem?_append_right (by simp)];simp
   have hb:qja s ((p.length:Int),p.map lowC++c::r)=some (.cont (((p.length+1:Nat):Int),(p++ [c]).map lowC++r)):=by
    unfold qja;dsimp only;rw[kqa hx,zJa hx2];simp only[cond_true,Option.bind_some,jia 65 c (by decide),jja 90 c (by decide),sc p.length (by omega),Int.toNat_natCast];have hset:(p.map lowC++c::r).set p.length (lowC c)=(p++ [c]).map lowC++r:=by
     rw[List.set_append_right _ _ (by simp)];simp
    have hsame:lowC c=c->p.map lowC++c::r=(p++ [c]).map lowC++r:=by intro h;simp[h]
    unfold lowC at hset hsame ⊢;cases h1:decide ((65:UInt8)<=c) <;> cases h2:decide (c<=90) <;> rw[h1,h2]at hset hsame <;> simp only[Bool.and_true,Bool.and_false,Bool.true_and,Bool.false_and,cond_true,cond_false,Option.bind_some]at hset hsame ⊢
    .rw[hsame trivial]
    .rw[hsame trivial]
    .rw[hsame trivial]
    rw[hset]
   rw[zNa hb];have:=ih (p++ [c]) (by simp[h]);simpa using this
 have:=key s [] rfl;have h2:iter (qja s) (0,s)=some (lowP s):=this;rw[h2];rfl
theorem K3a(n:Str)(hn:n.length<=1048576):wNa n=some (fnP n):=by
 unfold wNa;rw[jna n [] hn (by simp)];simp only[Option.bind_some,kia,Option.some.injEq];have h:=Q0a ⟨n,[]⟩;unfold yDa at h;dsimp only at h;rw[h];unfold vbb;cases hf:fnP n with
 | false=>rfl
 | true=>
  have h60:n.length<=60:=by unfold fnP at hf;simp only[Bool.and_eq_true,decide_eq_true_eq]at hf;exact hf.1.2
  have hl:flP n []=[txt n []]:=by unfold flP;exact k5a (.inl (by have:=Yca n [];simp at this;omega))
  have hlb:zFb (flP n [])=false:=by
   rw[hl];have:=Yca n [];unfold zFb;simp at this ⊢;omega
  have hv:valP []=true:=rfl;rw[hlb,hv];rfl
theorem joa(s t:List UInt8)(hs:s.length<=9223372036854775806):kJa s t=some (t.isSuffixOf s):=by
 unfold kJa wLa;by_cases h:t.length<=s.length
 .have:decide ((t.length:Int)<=(s.length:Int))=true:=by simp;omega
  rw[this,job _ _ h (by omega),yXa (by omega)];simp only[cond_true,Option.bind_some,Option.some.injEq];rw[Bool.eq_iff_iff,beq_iff_eq,List.isSuffixOf_iff_suffix,List.suffix_iff_eq_drop];constructor <;> exact fun h=>h.symm
 have:decide ((t.length:Int)<=(s.length:Int))=false:=by simp;omega
 rw[this];simp only[cond_false,Option.bind_some,Option.some.injEq]
 symm
 rw[Bool.eq_false_iff];intro hp;exact h (List.isSuffixOf_iff_suffix.1 hp).length_le
def chop(s:List UInt8):List UInt8:=if [13].isSuffixOf s then s.take (s.length - 1) else s
theorem zLb(s:List UInt8)(hs:s.length<=9223372036854775806):kQa s [13]=some (chop s):=by
 unfold kQa chop;rw[joa s _ hs];cases h: [13].isSuffixOf s with
 | false=>rfl
 | true=>
  have hl:=(List.isSuffixOf_iff_suffix.1 h).length_le;simp only[List.length_cons,List.length_nil]at hl;simp only[Option.bind_some,cond_true,List.length_cons,List.length_nil];rw[show ((s.length:Int) - ((0+1:Nat):Int))=((s.length - 1:Nat):Int) by omega,ZHa _ (by omega),j0a (by omega)];rfl
def eol(b:List UInt8):Nat:=b.findIdx (· ==10)
theorem K4a(c:UInt8):∀b:List UInt8,Lib.indexByte b c=if b.findIdx (· ==c) < b.length then ((b.findIdx (· ==c):Nat):Int) else -1
 | []=>rfl
 | x::b=>by
  have ih:=K4a c b;unfold Lib.indexByte;rw[List.findIdx_cons,ih];cases hx:x==c with
  | true=>simp
  | false=>
   simp only[Bool.false_eq_true,if_false,cond_false,List.length_cons];by_cases h:b.findIdx (· ==c) < b.length
   .rw[if_pos h,if_neg (by simp),if_pos (by omega)];simp
   rw[if_neg h,if_pos (show ((-1:Int)== -1)=true from rfl),if_neg (by omega)]
def yka(b:List UInt8):List UInt8 × Nat:=if eol b < b.length then (chop (b.take (eol b)),eol b+1) else (b,b.length)
theorem Y4a(b:List UInt8)(hb:b.length<=1048576):yWa b=some ((yka b).1,((yka b).2:Int)):=by
 unfold yWa yka qCa;simp only[Option.bind_some];rw[K4a,show b.findIdx (· ==10)=eol b from rfl];by_cases h:eol b < b.length
 .rw[if_pos h,if_pos h,decide_eq_false (by omega),cond_false,j0a (by omega)];simp only[Option.bind_some];rw[zLb _ (by simp;omega)];simp only[Option.bind_some];rw[kub _ _ (show eol b+OfNat.ofNat 1<=_ by show eol b+1<=_;omega)]
 rw[if_neg h,if_neg h];rfl
theorem jGb{b:List UInt8}{i:Nat}(hi:i < b.length): [13].isSuffixOf (b.take i)=(decide (0 < i) && (b[i - 1]?).elim false (· ==13)):=by
 cases i with
 | zero=>simp
 | succ i=>
  rw[List.take_add_one,List.getElem?_eq_getElem (by omega:i < b.length)];simp only[Option.toList_some,Nat.succ_sub_one,Nat.zero_lt_succ,decide_true,Bool.true_and,Nat.add_sub_cancel];rw[List.getElem?_eq_getElem (by omega:i < b.length)];simp only[Option.elim_some];rw[Bool.eq_iff_iff,List.isSuffixOf_iff_suffix,beq_iff_eq];constructor
  .rintro ⟨t,ht⟩;have:=(List.append_inj' ht rfl).2;simpa using this.symm
  intro h;rw[h];exact ⟨_,rfl⟩
theorem VMa{R:Type}(c:UInt8)(r:Nat->R):∀(l:List UInt8) (n:Nat),zFa (fun i x=>if x==c then some (r i) else none) n l=if l.findIdx (· ==c) < l.length then some (r (n+l.findIdx (· ==c))) else none
 | [],n=>rfl
 | x::l,n=>by
  unfold zFa;rw[List.findIdx_cons];cases hx:x==c with
  | true=>simp
  | false=>
   simp only[Bool.false_eq_true,if_false,cond_false,List.length_cons];rw[VMa c r l (n+1)];by_cases h:l.findIdx (· ==c) < l.length
   .rw[if_pos h,if_pos (by omega),show n+1+l.findIdx (· ==c)=n+(l.findIdx (· ==c)+1) by omega]
   rw[if_neg h,if_neg (by omega)]
theorem zMb(b:List UInt8)(hb:b.length<=1048576):VEa b=some ((yka b).1,((yka b).2:Int)):=by
 unfold VEa;rw[zQa b (fun i x=>if x==10 then some (chop (b.take i),((i+1:Nat):Int)) else none) (.inl ()) .inr]
 .rw[VMa];unfold yka;rw[show b.findIdx (· ==10)=eol b from rfl];by_cases h:eol b < b.length
  .rw[if_pos h,if_pos h];simp
  rw[if_neg h,if_neg h];rfl
 .unfold Zna;rw[zRa];rfl
 intro i c hc;have hi:=zUa hc;unfold Zna;rw[kqa hc,zJa hc];simp only[cond_true,Option.bind_some];rw[ZIa c 10 (by decide)];cases h10:c==10 with
 | false=>
  simp only[bne,h10,Bool.not_false,cond_true,Bool.false_eq_true,if_false,Option.elim_none];rw[sc i (by omega)]
 | true=>
  simp only[bne,h10,Bool.not_true,cond_false,if_true,Option.elim_some];have hch:chop (b.take i)=if (decide (0 < i) && (b[i - 1]?).elim false (· ==13)) then b.take (i - 1) else b.take i:=by
   unfold chop;rw[jGb hi];split
   .rw[List.length_take,Nat.min_eq_left (by omega),List.take_take,Nat.min_eq_left (by omega)]
   rfl
  cases i with
  | zero=>
   rw[hch];rfl
  | succ i=>
   have e1:decide ((0:Int) < ((i+1:Nat):Int))=true:=by simp
   have e2:w64 (((i+1:Nat):Int) - 1)=((i:Nat):Int):=by rw[show (((i+1:Nat):Int) - 1)=((i:Nat):Int) by omega,ZHa _ (by omega)]
   rw[e1,e2,v5a,List.getElem?_eq_getElem (by omega:i < b.length)];simp only[cond_true,Option.bind_some];rw[qEa _ 13 (by decide),j0a (by omega),j0a (by omega),hch];simp only[Nat.add_sub_cancel,List.getElem?_eq_getElem (by omega:i < b.length),Option.elim_some,Nat.zero_lt_succ,decide_true,Bool.true_and];rw[sc (i+1) (by omega)];cases b[i]==13 <;> rfl
theorem Yia{b:List UInt8}(h:b≠ []):1<=(yka b).2/\(yka b).2<=b.length/\(yka b).1.length<=b.length:=by
 have:=List.length_pos_iff.2 h;unfold yka;split
 .refine ⟨by simp,by simp;omega,?_⟩;unfold chop;split <;> simp <;> omega
 exact ⟨this,Nat.le_refl _,Nat.le_refl _⟩
def vUa(l:List UInt8):List UInt8:=(l.reverse.dropWhile zIa).reverse
theorem kJb:(fun x=>([32,9]:List UInt8).contains x)=zIa:=by
 funext x;simp[zIa,List.contains,List.elem];cases h1:x==32 <;> cases h2:x==9 <;> simp_all
theorem Wca(s:Str)(hs:s.length<=9223372036854775807):qBa s [32,9]=some (vUa s):=by
 unfold qBa Lib.trimRightS vUa;rw[if_pos ⟨hs,by decide,rfl⟩,kJb]
theorem JAa(c:UInt8):∀b:List UInt8,Lib.index b [c]=if b.findIdx (· ==c) < b.length then ((b.findIdx (· ==c):Nat):Int) else -1
 | []=>rfl
 | x::b=>by
  have ih:=JAa c b;unfold Lib.index;rw[List.findIdx_cons,ih];have hp:([c]:List UInt8).isPrefixOf (x::b)=(x==c):=by
   simp only[List.isPrefixOf,Bool.and_true];rw[Bool.eq_iff_iff,beq_iff_eq,beq_iff_eq];exact eq_comm
  rw[hp];cases hx:x==c with
  | true=>simp
  | false=>
   simp only[Bool.false_eq_true,if_false,cond_false,List.length_cons];by_cases h:b.findIdx (· ==c) < b.length
   .rw[if_pos h,if_neg (by simp),if_pos (by omega)];simp
   rw[if_neg h,if_pos (show ((-1:Int)== -1)=true from rfl),if_neg (by omega)]
def colI(s:Str):Nat:=s.findIdx (· ==58)
def colP(s:Str):Str × Str × Bool:=if colI s < s.length then (vUa (s.take (colI s)),s.drop (colI s+1),fnP (vUa (s.take (colI s)))) else (vUa s,[],false)
theorem j5a(s:Str):(vUa s).length<=s.length:=by
 unfold vUa;rw[List.length_reverse];have:=(List.dropWhile_sublist zIa (l:=s.reverse)).length_le;simpa using this
theorem jHb(s:Str):Lib.cut s [58]=if colI s < s.length then (s.take (colI s),s.drop (colI s+1),true) else (s,[],false):=by
 unfold Lib.cut;rw[JAa,show s.findIdx (· ==58)=colI s from rfl];by_cases h:colI s < s.length
 .rw[if_pos h,if_pos h,if_pos (by omega)];simp
 rw[if_neg h,if_neg h,if_neg (by omega)]
theorem Woa(s:Str)(hs:s.length<=1048576):wta s=some (⟨(colP s).1,(colP s).2.1⟩,(colP s).2.2):=by
 unfold wta qKa;rw[if_pos (by omega)];simp only[Option.bind_some];rw[jHb];unfold colP;by_cases h:colI s < s.length
 .rw[if_pos h,if_pos h];dsimp only;rw[Wca _ (by simp;omega)];simp only[Option.bind_some,cond_true];rw[K3a _ (by have:=j5a (s.take (colI s));simp at this;omega)];rfl
 rw[if_neg h,if_neg h];dsimp only;rw[Wca _ (by omega)];rfl
theorem jIb(n:Str)(hn:n.length<=1048576):(yDa ⟨n,[]⟩==0)=fnP n:=by
 have h1:=K3a n hn;unfold wNa at h1;rw[jna n [] hn (by simp)]at h1;simp only[Option.bind_some,kia,Option.some.injEq]at h1;rw[<-h1];show (yDa ⟨n,[]⟩==0)= !(yDa ⟨n,[]⟩ !=0);simp[bne]
theorem VNa(l:Str)(x:UInt8):vUa (l++ [x])=if zIa x then vUa l else l++ [x]:=by
 unfold vUa;rw[List.reverse_append,List.reverse_cons,List.reverse_nil,List.nil_append,List.singleton_append,List.dropWhile_cons];split
 .rfl
 simp
theorem w6b(s:Str)(hs:s.length<=1048576)(i:Nat)(hi:i<=s.length):∃k:Nat,iter (jYa s) (i:Int)=some (k:Int)/\k<=i/\s.take k=vUa (s.take i):=by
 obtain ⟨r,h1,k,h2,h3,h4⟩:=WKa (body:=jYa s) (fun n=>∃m:Nat,n=(m:Int)/\m<=i/\vUa (s.take m)=vUa (s.take i)) (fun n=>n.toNat) (fun _ r=>∃k:Nat,r=(k:Int)/\k<=i/\s.take k=vUa (s.take i)) (by
  rintro _ ⟨m,rfl,hm,he⟩;cases m with
  | zero=>exact .inl ⟨0,rfl,0,rfl,Nat.zero_le _,he⟩
  | succ m=>
   have hml:m < s.length:=by omega
   have e1:decide ((0:Int) < ((m+1:Nat):Int))=true:=by simp
   have e2:w64 (((m+1:Nat):Int) - 1)=((m:Nat):Int):=by rw[show (((m+1:Nat):Int) - 1)=((m:Nat):Int) by omega,ZHa _ (by omega)]
   have hb:jYa s ((m+1:Nat):Int)=some (bif zIa s[m] then .cont (m:Int) else .out ((m+1:Nat):Int)):=by
    unfold jYa;rw[e1,e2,v5a,List.getElem?_eq_getElem hml];simp only[cond_true,Option.bind_some,yMa];cases zIa s[m] <;> rfl
   have ht:s.take (m+1)=s.take m++ [s[m]]:=by rw[List.take_add_one,List.getElem?_eq_getElem hml];rfl
   rw[ht,VNa]at he;rw[hb];cases hx:zIa s[m] with
   | true=>
    rw[hx,if_pos rfl]at he;exact .inr ⟨(m:Int),rfl,⟨m,rfl,by omega,he⟩,by simp,fun _ h=>h⟩
   | false=>
    rw[hx,if_neg (by simp)]at he;exact .inl ⟨((m+1:Nat):Int),rfl,m+1,rfl,hm,by rw[ht];exact he⟩) (i:Int) ⟨i,rfl,Nat.le_refl _,rfl⟩
 subst h2;exact ⟨k,h1,h3,h4⟩
theorem JBa(s:Str)(hs:s.length<=1048576):q1b s=some (bif (colP s).2.2 then ((colP s).1,(colP s).2.1) else ([],[])):=by
 unfold q1b;rw[zQa s (fun i x=>if x==58 then some (bif fnP (vUa (s.take i)) then (vUa (s.take i),s.drop (i+1)) else (([]:Str),([]:Str))) else none) (.inl ()) .inr]
 .rw[VMa];unfold colP;rw[show s.findIdx (· ==58)=colI s from rfl];by_cases h:colI s < s.length
  .rw[if_pos h,if_pos h];simp only[Nat.zero_add,Option.bind_some,Option.elim_some,Sum.elim_inr]
  rw[if_neg h,if_neg h];rfl
 .unfold VFa;rw[zRa];rfl
 intro i c hc;have hi:=zUa hc;unfold VFa;rw[kqa hc,zJa hc];simp only[cond_true,Option.bind_some];rw[ZIa c 58 (by decide)];cases h10:c==58 with
 | false=>
  simp only[bne,h10,Bool.not_false,cond_true,Bool.false_eq_true,if_false,Option.elim_none];rw[sc i (by omega)]
 | true=>
  simp only[bne,h10,Bool.not_true,cond_false,if_true,Option.elim_some];obtain ⟨k,h1,h2,h3⟩:=w6b s hs i (by omega);rw[h1];simp only[Option.bind_some];rw[j0a (by omega),h3];simp only[Option.bind_some];rw[K2a ⟨vUa (s.take i),[]⟩ (by have:=j5a (s.take i);simp at this ⊢;omega) (by simp)];simp only[Option.bind_some];rw[jIb _ (by have:=j5a (s.take i);simp at this ⊢;omega),sc i (by omega),yXa (by omega)];cases fnP (vUa (s.take i)) <;> rfl
theorem jJb{s:Str}(h:(colP s).2.2=true):(colP s).1≠ []:=by
 unfold colP at h ⊢;split
 .rename_i hc;rw[if_pos hc]at h;intro he;have h:fnP (vUa (s.take (colI s)))=true:=h;have he:vUa (s.take (colI s))=[]:=he;rw[he]at h;cases h
 rename_i hc;rw[if_neg hc]at h;cases h
theorem colP_len(s:Str):(colP s).1.length<=s.length/\(colP s).2.1.length<=s.length:=by
 unfold colP;split
 .refine ⟨?_,by simp⟩;have:=j5a (s.take (colI s));simp at this ⊢;omega
 exact ⟨j5a s,by simp⟩
def jDa(l:List UInt8):List UInt8:=l.dropWhile zIa
theorem JCa(x:UInt8)(l:Str):vUa (x::l)=if zIa x=true/\vUa l=[] then [] else x::vUa l:=by
 unfold vUa;rw[List.reverse_cons,List.dropWhile_append];cases h:(l.reverse.dropWhile zIa).isEmpty with
 | true=>
  have h0:l.reverse.dropWhile zIa=[]:=List.isEmpty_iff.1 h;rw[h0,List.dropWhile_cons];cases hx:zIa x <;> simp
 | false=>
  have h0:l.reverse.dropWhile zIa≠ []:=fun e=>by rw[e]at h;cases h
  simp[h0]
theorem kKb:∀l:Str,jDa (vUa l)=vUa (jDa l)
 | []=>rfl
 | x::l=>by
  have ih:=kKb l;rw[JCa];cases hx:zIa x with
  | false=>
   rw[if_neg (by simp)];unfold jDa;rw[List.dropWhile_cons_of_neg (by simp[hx]),List.dropWhile_cons_of_neg (by simp[hx]),JCa,if_neg (by simp[hx])]
  | true=>
   rw[show jDa (x::l)=jDa l by unfold jDa;rw[List.dropWhile_cons_of_pos hx],<-ih];split
   .rename_i h;rw[h.2]
   unfold jDa;rw[List.dropWhile_cons_of_pos hx]
def jpa(v:Str):Str:=vUa (jDa (v.map kka))
theorem JDa(v:Str):(jpa v).length<=v.length:=by
 unfold jpa jDa;have h1:=j5a ((v.map kka).dropWhile zIa);have h2:=(List.dropWhile_sublist zIa (l:=v.map kka)).length_le;simp at h2;omega
theorem Trim_eq(v:Str)(hs:v.length<=1048576):((z0a v).bind fun v48=>yfa v48 [32,9])=some (jpa v):=by
 unfold z0a yfa Lib.trimS Lib.trimLeftS Lib.trimRightS;rw[if_pos (by omega)];simp only[Option.bind_some];rw[if_pos ⟨by simp;omega,by decide,rfl⟩,kJb];show some (jDa (vUa (v.map kka)))=_;rw[kKb];rfl
theorem cleaned1(s:Str)(hs:s.length<=1048576):iter (yha s) (0,([]:List UInt8))=some (s.map kka):=by
 have h:=yYa s (fun i a=>(i,a)) (fun (a:List UInt8) c=>a++ [kka c]) id (fun i a=>a.length=i) (body:=yha s) (fun a ha=>by
  unfold yha;rw[zRa];rfl) (fun i c a hc ha=>by
  have hi:=zUa hc;refine ⟨?_,by simp[ha]⟩;unfold yha;rw[kqa hc,zJa hc];simp only[cond_true,Option.bind_some];rw[qEa c 0 (by decide),qEa c 13 (by decide)];have e:(bif c==0 then some true else some (c==13):Option Bool)=some (c==0 || c==13):=by cases c==0 <;> rfl
  rw[e];simp only[Option.bind_some];have e2:(bif (c==0 || c==13) then some (32:UInt8) else some c)=some (kka c):=by
   unfold kka;by_cases h0:c=0
   .subst h0;rfl
   by_cases h1:c=13
   .subst h1;rfl
   rw[beq_eq_false_iff_ne.2 h0,beq_eq_false_iff_ne.2 h1,if_neg (by simp[h0,h1])];rfl
  rw[e2];simp only[Option.bind_some];rw[zYa (by simp;omega),sc i (by omega)];rfl) [] rfl
 rw[h.1];have:∀(l:Str) (a:List UInt8),l.foldl (fun a c=>a++ [kka c]) a=a++l.map kka:=by
  intro l;induction l with
  | nil=>intro a;simp
  | cons x l ih=>intro a;rw[List.foldl_cons,ih];simp
 rw[this];rfl
theorem v8b:∀(l:Str),l.length<=1048576->iter (jga) l=some (jDa l)
 | [],_=>zGa rfl
 | x::l,h=>by
  have hb:jga (x::l)=some (bif zIa x then .cont l else .out (x::l)):=by
   unfold jga;rw[show decide ((0:Int) < ((x::l).length:Int))=true by simp,show idx (x::l) 0=some x from rfl];simp only[cond_true,Option.bind_some,yMa];rw[show ((1:Int))=((1:Nat):Int) from rfl,yXa (by simp)];cases zIa x <;> rfl
  cases hx:zIa x with
  | true=>
   rw[hx]at hb;rw[zNa hb,v8b l (by simp at h;omega)];unfold jDa;rw[List.dropWhile_cons_of_pos hx]
  | false=>
   rw[hx]at hb;rw[zGa hb];unfold jDa;rw[List.dropWhile_cons_of_neg (by simp[hx])]
theorem cleaned3(n:Nat):∀(l:Str),l.length=n->l.length<=1048576->iter (jha) l=some (vUa l):=by
 induction n with
 | zero=>
  intro l hn _;have:=List.eq_nil_of_length_eq_zero hn;subst this;exact zGa rfl
 | succ n ih=>
  intro l hn h;obtain ⟨p,x,rfl⟩:∃p x,l=p++ [x]:=⟨l.dropLast,l.getLast (by rintro rfl;simp at hn),(List.dropLast_concat_getLast _).symm⟩;have hp:p.length=n:=by simpa using hn
  have hb:jha (p++ [x])=some (bif zIa x then .cont p else .out (p++ [x])):=by
   unfold jha;have e2:w64 (((p++ [x]).length:Int) - 1)=(p.length:Int):=by
    rw[show (((p++ [x]).length:Int) - 1)=(p.length:Int) by simp,ZHa _ (by omega)]
   rw[show decide ((0:Int) < ((p++ [x]).length:Int))=true by simp,e2,W8a p x []];simp only[cond_true,Option.bind_some,yMa];rw[j0a (by simp)];simp only[List.take_left];cases zIa x <;> rfl
  rw[VNa];cases hx:zIa x with
  | true=>
   rw[hx]at hb;rw[zNa hb,ih p hp (by omega),if_pos rfl]
  | false=>
   rw[hx]at hb;rw[zGa hb,if_neg (by simp)]
theorem kLb(s:Str)(hs:s.length<=1048576):W7a s=some (jpa s):=by
 unfold W7a;rw[cleaned1 s hs];simp only[Option.bind_some];have h2:(jDa (s.map kka)).length<=s.length:=by
  unfold jDa;have:=(List.dropWhile_sublist zIa (l:=s.map kka)).length_le;simpa using this
 rw[v8b _ (by simpa using hs)];simp only[Option.bind_some];rw[cleaned3 _ _ rfl (by omega)];rfl
def yZa:Nat->List UInt8->List UInt8
 | 0,_=>[]
 | _+1,[]=>[]
 | n+1,c::r=>if c=13 then 13::10::yZa n (if r.head? =some 10 then r.drop 1 else r) else if c=10 then 13::10::yZa n r else c::yZa n r
theorem Yja:∀(n:Nat) (l:List UInt8),(yZa n l).length<=2 * n
 | 0,_=>by simp[yZa]
 | n+1,[]=>by simp[yZa]
 | n+1,c::r=>by
  unfold yZa;split
  .have:=Yja n (if r.head? =some 10 then r.drop 1 else r);simp only[List.length_cons];omega
  have:=Yja n r;split <;> simp only[List.length_cons] <;> omega
theorem VOa:∀(n m:Nat) (l:List UInt8),l.length<=n->l.length<=m->yZa n l=yZa m l
 | 0,m,l,h,_=>by
  obtain rfl:=List.eq_nil_of_length_eq_zero (by omega:l.length=0);cases m <;> rfl
 | n+1,m,[],_,_=>by cases m <;> rfl
 | n+1,0,c::r,_,h=>by simp at h
 | n+1,m+1,c::r,h1,h2=>by
  simp only[List.length_cons]at h1 h2;unfold yZa;have hle:(if r.head? =some 10 then r.drop 1 else r).length<=r.length:=by
   split
   .simp
   exact Nat.le_refl _
  have e1:=VOa n m (if r.head? =some 10 then r.drop 1 else r) (by omega) (by omega);have e2:=VOa n m r (by omega) (by omega);rw[e1,e2]
theorem kMb(b:List UInt8)(hb:b.length<=1048576){body:Int × List UInt8->Option (Step (Int × List UInt8) (List UInt8))}
 (h0:∀a,body ((b.length:Int),a)=some (.out a))
 (h1:∀(i:Nat) c a,b[i]? =some c->a.length<=3000000->body ((i:Int),a)=some (.cont (if c=13 then (((if b[i+1]? =some 10 then i+2 else i+1:Nat):Int),a++ [13,10]) else if c=10 then (((i+1:Nat):Int),a++ [13,10]) else (((i+1:Nat):Int),a++ [c])))):
 ∀(n i:Nat) (a:List UInt8),i+n=b.length->a.length<=2 * i->iter body ((i:Int),a)=some (a++yZa n (b.drop i)):=by
 intro n;induction n using Nat.strongRecOn with
 | _ n ih=>
  intro i a hn ha;cases n with
  | zero=>
   obtain rfl:i=b.length:=by omega
   rw[zGa (h0 a)];simp[yZa]
  | succ n=>
   have hi:i < b.length:=by omega
   have hd:b.drop i=b[i]::b.drop (i+1):=List.drop_eq_getElem_cons hi;have hs:=h1 i b[i] a (List.getElem?_eq_getElem hi) (by omega);rw[zNa hs,hd];unfold yZa;by_cases h13:b[i]=13
   .rw[if_pos h13,if_pos h13];have hh:(b.drop (i+1)).head? =b[i+1]? :=by rw[List.head?_drop]
    rw[hh];by_cases h10:b[i+1]? =some 10
    .rw[if_pos h10,if_pos h10];have hi1:=(List.getElem?_eq_some_iff.1 h10).1;have:=ih (n - 1) (by omega) (i+2) (a++ [13,10]) (by omega) (by simp;omega);rw[this,List.drop_drop,VOa (n - 1) n _ (by simp;omega) (by simp;omega)];simp
    rw[if_neg h10,if_neg h10];have:=ih n (by omega) (i+1) (a++ [13,10]) (by omega) (by simp;omega);rw[this];simp
   rw[if_neg h13,if_neg h13];by_cases h10:b[i]=10
   .rw[if_pos h10,if_pos h10,ih n (by omega) (i+1) (a++ [13,10]) (by omega) (by simp;omega)];simp
   rw[if_neg h10,if_neg h10,ih n (by omega) (i+1) (a++ [b[i]]) (by omega) (by simp;omega)];simp
theorem jEa(c k:UInt8):(c==k)=decide (c=k):=by rw[Bool.eq_iff_iff];simp
theorem jKb(b:List UInt8)(i:Nat)(hb:b.length<=1048576)(hi:i < b.length):(bif decide (w64 ((i:Int)+1) < (b.length:Int)) then (idx b (w64 ((i:Int)+1))).bind fun v11=>some ((v11.toNat:Int)==10) else some false)=some (decide (b[i+1]? =some 10)):=by
 rw[sc i (by omega)];by_cases h:i+1 < b.length
 .rw[decide_eq_true (by omega),v5a,List.getElem?_eq_getElem h];simp only[cond_true,Option.bind_some];rw[qEa _ 10 (by decide),jEa]
  congr 1
  rw[Bool.eq_iff_iff];simp
 rw[decide_eq_false (by omega),List.getElem?_eq_none (by omega)];rfl
theorem Wpa(b:List UInt8)(hb:b.length<=1048576):wua b=some (yZa b.length b):=by
 unfold wua;have:=kMb b hb (body:=qTa b) (fun a=>by unfold qTa;rw[zRa];rfl) (fun i c a hc ha=>by
  have hi:=zUa hc;unfold qTa;dsimp only;rw[kqa hc,zJa hc,jKb b i hb hi];simp only[cond_true,Option.bind_some];rw[qEa c 13 (by decide),qEa c 10 (by decide),jEa,jEa];rw[zYa (show a.length+([13,10]:List UInt8).length<=_ by simp;omega),zYa (show a.length+ [c].length<=_ by simp;omega)];by_cases h13:c=13
  .rw[if_pos h13,decide_eq_true h13];simp only[cond_true,Option.bind_some];by_cases h10:b[i+1]? =some 10
   .rw[if_pos h10,decide_eq_true h10];simp only[cond_true,Option.bind_some];rw[sc i (by omega),sc (i+1) (by omega)]
   rw[if_neg h10,decide_eq_false h10];simp only[cond_false,Option.bind_some];rw[sc i (by omega)]
  rw[if_neg h13,decide_eq_false h13];simp only[cond_false,Option.bind_some];by_cases h10:c=10
  .rw[if_pos h10,decide_eq_true h10];simp only[cond_true,Option.bind_some];rw[sc i (by omega)]
  rw[if_neg h10,decide_eq_false h10];simp only[cond_false,Option.bind_some];rw[sc i (by omega)]) b.length 0 [] (by omega) (by simp)
 rw[show ((0:Int))=((0:Nat):Int) from rfl,this];rfl
theorem jLb(b:List UInt8)(hb:b.length<=1048576)(i:Nat)(hi:i<=b.length):iter (vSa b) ((i:Int),([]:List UInt8))=some (yZa (b.drop i).length (b.drop i)):=by
 have:=kMb b hb (body:=vSa b) (fun a=>by unfold vSa;rw[zRa];rfl) (fun i c a hc ha=>by
  have hi:=zUa hc;unfold vSa;dsimp only;rw[kqa hc,zJa hc,jKb b i hb hi];simp only[cond_true,Option.bind_some];rw[qEa c 13 (by decide),qEa c 10 (by decide),jEa,jEa];rw[zYa (show a.length+([13,10]:List UInt8).length<=_ by simp;omega),zYa (show a.length+ [c].length<=_ by simp;omega)];by_cases h13:c=13
  .rw[if_pos h13,decide_eq_true h13];simp only[cond_true,Option.bind_some];by_cases h10:b[i+1]? =some 10
   .rw[if_pos h10,decide_eq_true h10];simp only[cond_true,Option.bind_some];rw[sc i (by omega),sc (i+1) (by omega)]
   rw[if_neg h10,decide_eq_false h10];simp only[cond_false,Option.bind_some];rw[sc i (by omega)]
  rw[if_neg h13,decide_eq_false h13];simp only[cond_false,Option.bind_some];by_cases h10:c=10
  .rw[if_pos h10,decide_eq_true h10];simp only[cond_true,cond_false,Option.bind_some];rw[sc i (by omega)]
  rw[if_neg h10,decide_eq_false h10];simp only[cond_false,Option.bind_some];rw[sc i (by omega)]) (b.drop i).length i [] (by simp;omega) (by simp)
 rw[this];rfl
def Kca{S R:Type}(step:S->S ⊕ R)(dflt:R):Nat->S->R
 | 0,_=>dflt
 | n+1,s=>match step s with | .inl s' =>Kca step dflt n s' | .inr r=>r
theorem Q4a{S R A B:Type}(enc:S->A)(out:R->B)(step:S->S ⊕ R)(dflt:R)(Inv:S->Prop)(m:S->Nat){body:A->Option (Step A B)}
 (h:∀s,Inv s->body (enc s)=some (Sum.elim (fun s' =>.cont (enc s')) (fun r=>.out (out r)) (step s))/\∀s',step s=.inl s' ->Inv s' /\m s' < m s):
 ∀(n:Nat) (s:S),Inv s->m s < n->iter body (enc s)=some (out (Kca step dflt n s)):=by
 intro n;induction n with
 | zero=>intro s _ h2;omega
 | succ n ih=>
  intro s hs hm;obtain ⟨h1,h2⟩:=h s hs;unfold Kca;cases hst:step s with
  | inl s' =>
   rw[hst]at h1;obtain ⟨h3,h4⟩:=h2 s' hst;rw[zNa h1];exact ih s' h3 (by omega)
  | inr r=>
   rw[hst]at h1;exact zGa h1
theorem kNb{S R:Type}(step:S->S ⊕ R)(dflt:R)(Inv:S->Prop)(Post:R->Prop)(m:S->Nat)
 (h:∀s,Inv s->(∀s',step s=.inl s' ->Inv s' /\m s' < m s)/\∀r,step s=.inr r->Post r):∀(n:Nat) (s:S),Inv s->m s < n->Post (Kca step dflt n s):=by
 intro n;induction n with
 | zero=>intro s _ h2;omega
 | succ n ih=>
  intro s hs hm;obtain ⟨h1,h2⟩:=h s hs;unfold Kca;cases hst:step s with
  | inl s' =>exact ih s' (h1 s' hst).1 (by have:=(h1 s' hst).2;omega)
  | inr r=>exact h2 r hst
def Zua(l:List zha)(t:Str):List zha:=match l[l.length - 1]? with
 | some f=>l.set (l.length - 1) ⟨f.Name,f.Value++t⟩
 | none=>l
def qla(b:List UInt8)(s:Nat × List zha):(Nat × List zha) ⊕ (Nat × List zha):=
 if s.1 < b.length then
  match (yka (b.drop s.1)).1 with
  | []=>.inr (s.1+(yka (b.drop s.1)).2,s.2)
  | c::_=>if zIa c=true/\s.2≠ [] then .inl (s.1+(yka (b.drop s.1)).2,Zua s.2 (yka (b.drop s.1)).1)
   else if (colP (yka (b.drop s.1)).1).2.2=true then .inl (s.1+(yka (b.drop s.1)).2,s.2++ [⟨(colP (yka (b.drop s.1)).1).1,(colP (yka (b.drop s.1)).1).2.1⟩])
   else .inr s
 else .inr s
def HInv(b:List UInt8)(s:Nat × List zha):Prop:=s.1<=b.length/\s.2.length<=s.1/\∀f∈s.2,f.Name.length<=s.1/\f.Value.length<=s.1
theorem Yka(b:List UInt8):(yka b).1.length<=(yka b).2:=by
 unfold yka;split
 .unfold chop;split <;> simp <;> omega
 exact Nat.le_refl _
theorem Yla{l:List zha}(h:l≠ []):∃f,l[l.length - 1]? =some f/\f∈l:=by
 have:=List.length_pos_iff.2 h;exact ⟨l[l.length - 1]'(by omega),List.getElem?_eq_getElem (by omega),List.getElem_mem _⟩
theorem Yma{b:List UInt8}{s:Nat × List zha}(h:HInv b s):(∀s',qla b s=.inl s' ->HInv b s' /\b.length - s'.1 < b.length - s.1)/\∀r,qla b s=.inr r->HInv b r:=by
 obtain ⟨h1,h2,h3⟩:=h;unfold qla;by_cases hl:s.1 < b.length
 .rw[if_pos hl];have hne:b.drop s.1≠ []:=by
   intro e;have:=congrArg List.length e;simp at this;omega
  obtain ⟨p1,p2,p3⟩:=Yia hne;have p4:=Yka (b.drop s.1);rw[List.length_drop]at p2;generalize yka (b.drop s.1)=L at p1 p2 p3 p4;obtain ⟨t,n⟩:=L;dsimp only at p1 p2 p3 p4 ⊢;cases t with
  | nil=>
   refine ⟨fun s' e=>(by cases e),fun r e=>?_⟩;cases e;exact ⟨by show s.1+n<=_;omega,by show s.2.length<=s.1+n;omega,fun f hf=>by have:=h3 f hf;show _<=s.1+n/\_<=s.1+n;omega⟩
  | cons c t=>
   dsimp only;by_cases hb:zIa c=true/\s.2≠ []
   .rw[if_pos hb];refine ⟨fun s' e=>?_,fun r e=>by cases e⟩;cases e;obtain ⟨f,hf,hm⟩:=Yla hb.2;have hset:Zua s.2 (c::t)=s.2.set (s.2.length - 1) ⟨f.Name,f.Value++(c::t)⟩:=by unfold Zua;rw[hf]
    refine ⟨⟨by show s.1+n<=_;omega,?_,fun g hg=>?_⟩,by show b.length - (s.1+n) < _;omega⟩
    .show (Zua s.2 (c::t)).length<=s.1+n;rw[hset,List.length_set];omega
    have hg:g∈Zua s.2 (c::t):=hg;rw[hset]at hg;show _<=s.1+n/\_<=s.1+n;rcases List.mem_or_eq_of_mem_set hg with h4 | rfl
    .have:=h3 g h4;omega
    have:=h3 f hm;simp only[List.length_append];omega
   rw[if_neg hb];by_cases hc:(colP (c::t)).2.2=true
   .rw[if_pos hc];refine ⟨fun s' e=>?_,fun r e=>by cases e⟩;cases e;obtain ⟨q1,q2⟩:=colP_len (c::t);refine ⟨⟨by show s.1+n<=_;omega,by simp;omega,fun g hg=>?_⟩,by show b.length - (s.1+n) < _;omega⟩;rcases List.mem_append.1 hg with h4 | h4
    .have:=h3 g h4;show _<=s.1+n/\_<=s.1+n;omega
    rw[List.mem_singleton]at h4;subst h4;show _<=s.1+n/\_<=s.1+n;dsimp only;omega
   rw[if_neg hc];exact ⟨fun s' e=>(by cases e),fun r e=>(by cases e;exact ⟨h1,h2,h3⟩)⟩
 rw[if_neg hl];exact ⟨fun s' e=>(by cases e),fun r e=>(by cases e;exact ⟨h1,h2,h3⟩)⟩
def encH(s:Nat × List zha):Int × List zha:=((s.1:Int),s.2)
theorem v9b{l:List zha}(h:l≠ [])(hl:l.length<=1048576):w64 ((l.length:Int) - 1)=((l.length - 1:Nat):Int):=by
 have:=List.length_pos_iff.2 h;rw[show ((l.length:Int) - 1)=((l.length - 1:Nat):Int) by omega,ZHa _ (by omega)]
theorem jMb(b:List UInt8)(hb:b.length<=12000)(s:Nat × List zha)(h:HInv b s):vQa b (encH s)=some (Sum.elim (fun s' =>.cont (encH s')) (fun r=>.out (encH r)) (qla b s)):=by
 obtain ⟨h1,h2,h3⟩:=h;unfold vQa qla encH;by_cases hl:s.1 < b.length
 .rw[if_pos hl,decide_eq_true (by omega)];have hne:b.drop s.1≠ []:=by
   intro e;have:=congrArg List.length e;simp at this;omega
  obtain ⟨p1,p2,p3⟩:=Yia hne;have p4:=Yka (b.drop s.1);have hline:=Y4a (b.drop s.1) (by simp;omega);rw[List.length_drop]at p2 p3;simp only[cond_true];rw[yXa (by omega)];simp only[Option.bind_some];rw[hline];generalize yka (b.drop s.1)=L at p1 p2 p3 p4;obtain ⟨t,n⟩:=L;dsimp only at p1 p2 p3 p4 ⊢;simp only[Option.bind_some];rw[jnb _ _ (by omega)];cases t with
  | nil=>rfl
  | cons c t=>
   rw[show ((c::t)==([]:Str))=false from rfl,show idx (c::t) 0=some c from rfl];simp only[cond_false,Option.bind_some,jBa];have e0:(bif zIa c then some (decide ((0:Int) < (s.2.length:Int))) else some false)=some (decide (zIa c=true/\s.2≠ [])):=by
    cases zIa c with
    | false=>rfl
    | true=>
     simp only[cond_true,Option.some.injEq];rw[Bool.eq_iff_iff];simp[List.length_pos_iff]
   rw[e0];simp only[Option.bind_some];by_cases hbl:zIa c=true/\s.2≠ []
   .rw[if_pos hbl,decide_eq_true hbl];obtain ⟨f,hf,hm⟩:=Yla hbl.2;have hv:=h3 f hm;simp only[cond_true];rw[v9b hbl.2 (by omega),v5a,hf];simp only[Option.bind_some];rw[wxa (by omega)];simp only[Option.bind_some];unfold Zua;rw[hf];rfl
   rw[if_neg hbl,decide_eq_false hbl];simp only[cond_false];rw[Woa _ (by omega)];simp only[Option.bind_some];cases hc:(colP (c::t)).2.2 with
   | false=>rfl
   | true=>
    rw[if_pos rfl];simp only[Bool.not_true,cond_false];rw[zYa (by simp;omega)];rfl
 rw[if_neg hl,decide_eq_false (by omega)];rfl
theorem ref_body(b:List UInt8)(hb:b.length<=12000)(s:Nat × List zha)(h:HInv b s):w1a b (encH s)=some (Sum.elim (fun s' =>.cont (encH s')) (fun r=>.out (encH r)) (qla b s)):=by
 obtain ⟨h1,h2,h3⟩:=h;unfold w1a qla encH;by_cases hl:s.1 < b.length
 .rw[if_pos hl,decide_eq_true (by omega)];have hne:b.drop s.1≠ []:=by
   intro e;have:=congrArg List.length e;simp at this;omega
  obtain ⟨p1,p2,p3⟩:=Yia hne;have p4:=Yka (b.drop s.1);have hline:=zMb (b.drop s.1) (by simp;omega);rw[List.length_drop]at p2 p3;simp only[cond_true];rw[yXa (by omega)];simp only[Option.bind_some];rw[hline];generalize yka (b.drop s.1)=L at p1 p2 p3 p4;obtain ⟨t,n⟩:=L;dsimp only at p1 p2 p3 p4 ⊢;simp only[Option.bind_some];rw[jnb _ _ (by omega)];cases t with
  | nil=>rfl
  | cons c t=>
   rw[show ((c::t)==([]:Str))=false from rfl,show idx (c::t) 0=some c from rfl];simp only[cond_false,Option.bind_some,yMa];by_cases hs:s.2=[]
   .have e1:w64 ((s.2.length:Int) - 1)= -1:=by rw[hs];rfl
    rw[e1,if_neg (fun e=>e.2 hs)];have e0:(bif zIa c then some ((-1:Int),decide ((0:Int)<= -1)) else some (-1,false))=some (-1,false):=by cases zIa c <;> rfl
    rw[e0];simp only[Option.bind_some,cond_false];rw[JBa _ (by omega)];simp only[Option.bind_some];cases hc:(colP (c::t)).2.2 with
    | false=>rfl
    | true=>
     have hn:=jJb hc;rw[if_pos rfl];simp only[cond_true];rw[beq_eq_false_iff_ne.2 hn];simp only[cond_false];rw[zYa (by simp;omega)];rfl
   rw[v9b hs (by omega)];have e0:(bif zIa c then some (((s.2.length - 1:Nat):Int),decide ((0:Int)<=((s.2.length - 1:Nat):Int))) else some (((s.2.length - 1:Nat):Int),false))=some (((s.2.length - 1:Nat):Int),zIa c):=by
    cases zIa c with
    | false=>rfl
    | true=>simp only[cond_true];rw[decide_eq_true (by omega)]
   rw[e0];simp only[Option.bind_some];cases hbl:zIa c with
   | true=>
    rw[if_pos ⟨rfl,hs⟩];obtain ⟨f,hf,hm⟩:=Yla hs;have hv:=h3 f hm;simp only[cond_true];rw[v5a,hf];simp only[Option.bind_some];rw[wxa (by omega)];simp only[Option.bind_some];unfold Zua;rw[hf];rfl
   | false=>
    rw[if_neg (by simp)];simp only[cond_false];rw[JBa _ (by omega)];simp only[Option.bind_some];cases hc:(colP (c::t)).2.2 with
    | false=>rfl
    | true=>
     have hn:=jJb hc;rw[if_pos rfl];simp only[cond_true];rw[beq_eq_false_iff_ne.2 hn];simp only[cond_false];rw[zYa (by simp;omega)];rfl
 rw[if_neg hl,decide_eq_false (by omega)];rfl
def wTa(b:List UInt8):Nat × List zha:=Kca (qla b) (0,[]) (b.length+1) (0,[])
theorem hinv0(b:List UInt8):HInv b (0,[]):=⟨Nat.zero_le _,Nat.le_refl _,fun f hf=>by cases hf⟩
theorem Yna(b:List UInt8):HInv b (wTa b):=kNb (qla b) (0,[]) (HInv b) (HInv b) (fun s=>b.length - s.1) (fun s hs=>Yma hs) _ _ (hinv0 b) (by show b.length - 0 < _;omega)
theorem kOb(b:List UInt8)(hb:b.length<=12000):iter (vQa b) ((0,([]:List zha)))=some (encH (wTa b))/\iter (w1a b) ((0,([]:List zha)))=some (encH (wTa b)):=
 ⟨Q4a encH encH (qla b) (0,[]) (HInv b) (fun s=>b.length - s.1) (fun s hs=>⟨jMb b hb s hs,(Yma hs).1⟩) _ (0,[]) (hinv0 b) (by show b.length - 0 < _;omega),
  Q4a encH encH (qla b) (0,[]) (HInv b) (fun s=>b.length - s.1) (fun s hs=>⟨ref_body b hb s hs,(Yma hs).1⟩) _ (0,[]) (hinv0 b) (by show b.length - 0 < _;omega)⟩
def vDa(f:zha):zha:=⟨f.Name,jpa f.Value⟩
def mixF(l:List zha)(i:Nat):List zha:=(l.take i).map vDa++l.drop i
theorem jNb{l:List zha}{i:Nat}{x:zha}(h:l[i]? =some x):(mixF l i)[i]? =some x:=by
 have hi:=(List.getElem?_eq_some_iff.1 h).1;unfold mixF;rw[List.getElem?_append_right (by simp;omega)];simp only[List.length_map,List.length_take,List.getElem?_drop];rw[show i+(i - min i l.length)=i by omega];exact h
theorem wab(l:List zha)(i:Nat):(mixF l i).length=l.length:=by simp[mixF];omega
theorem kPb{l:List zha}{i:Nat}{x:zha}(h:l[i]? =some x):(mixF l i).set i (vDa x)=mixF l (i+1):=by
 have hi:=(List.getElem?_eq_some_iff.1 h).1;have hx:=(List.getElem?_eq_some_iff.1 h).2;unfold mixF;rw[List.set_append_right _ _ (by simp;omega)];simp only[List.length_map,List.length_take];rw[show i - min i l.length=0 by omega,List.take_add_one,h,List.drop_eq_getElem_cons hi,hx];simp
theorem wbb(l:List zha):mixF l l.length=l.map vDa:=by simp[mixF]
theorem kQb(l:List zha):mixF l 0=l:=by simp[mixF]
def jOb(l:List zha)(i:Nat):Nat ⊕ Option Nat:=match l[i]? with
 | some f=>if 4000 < (jpa f.Value).length then .inr (some i) else .inl (i+1)
 | none=>.inr none
def vout(l:List zha):Option Nat->(List zha) ⊕ ((List zha) × Int × zva)
 | none=>.inl (l.map vDa)
 | some i=>.inr ([],0,⟨1,(i:Int)⟩)
def valsP(l:List zha):Option Nat:=Kca (jOb l) none (l.length+1) 0
theorem jPb(p:Int × List zha)(hl:p.2.length<=1048576)(hv:∀f∈p.2,f.Value.length<=1048576):iter (vRa p) ((0,p.2))=some (vout p.2 (valsP p.2)):=by
 have h:=Q4a (fun i:Nat=>((i:Int),mixF p.2 i)) (vout p.2) (jOb p.2) none (fun i=>i<=p.2.length) (fun i=>p.2.length - i) (body:=vRa p) (fun i hi=>?_) (p.2.length+1) 0 (Nat.zero_le _) (by omega)
 .rw[kQb]at h;exact h
 unfold vRa jOb;cases hf:p.2[i]? with
 | none=>
  have:i=p.2.length:=by have:=List.getElem?_eq_none_iff.1 hf;omega
  subst this;dsimp only;rw[decide_eq_false (by omega),wbb];exact ⟨rfl,fun s' e=>by cases e⟩
 | some f=>
  have hi2:=zUa hf;have hfv:=hv f (List.mem_of_getElem? hf);dsimp only;rw[decide_eq_true (by omega),zJa (jNb hf)];simp only[cond_true,Option.bind_some];have ht:=Trim_eq f.Value hfv;have hlt:(jpa f.Value).length<=1048576:=Nat.le_trans (JDa _) hfv;cases hr:z0a f.Value with
  | none=>rw[hr]at ht;cases ht
  | some v=>
   rw[hr]at ht;simp only[Option.bind_some]at ht ⊢;rw[ht];simp only[Option.bind_some];by_cases h4:4000 < (jpa f.Value).length
   .rw[if_pos h4,decide_eq_true (by omega)];exact ⟨rfl,fun s' e=>by cases e⟩
   rw[if_neg h4,decide_eq_false (by omega)];simp only[cond_false];rw[sc i (by omega),Int.toNat_natCast];refine ⟨?_,fun s' e=>by cases e;exact ⟨by omega,by omega⟩⟩;rw[show (⟨f.Name,jpa f.Value⟩:zha)=vDa f from rfl,kPb hf];rfl
theorem vals_ref(l:List zha)(hl:l.length<=1048576)(hv:∀f∈l,f.Value.length<=1048576):iter (w2a) ((0,l))=some (l.map vDa):=by
 have h:=Q4a (fun i:Nat=>((i:Int),mixF l i)) (fun _:Unit=>l.map vDa) (fun i=>if i < l.length then .inl (i+1) else .inr ()) () (fun i=>i<=l.length) (fun i=>l.length - i) (body:=w2a) (fun i hi=>?_) (l.length+1) 0 (Nat.zero_le _) (by omega)
 .rw[kQb]at h;exact h
 unfold w2a;by_cases hi2:i < l.length
 .have hf:l[i]? =some l[i]:=List.getElem?_eq_getElem hi2;rw[if_pos hi2];dsimp only;rw[wab,decide_eq_true (by omega),zJa (jNb hf)];simp only[cond_true,Option.bind_some];rw[kLb _ (hv _ (List.getElem_mem _))];simp only[Option.bind_some];rw[sc i (by omega),Int.toNat_natCast];refine ⟨?_,fun s' e=>by cases e;exact ⟨by omega,by omega⟩⟩;rw[show (⟨l[i].Name,jpa l[i].Value⟩:zha)=vDa l[i] from rfl,kPb hf];rfl
 rw[if_neg hi2];obtain rfl:i=l.length:=by omega
 dsimp only;rw[wab,decide_eq_false (by omega),wbb];exact ⟨rfl,fun s' e=>by cases e⟩
theorem w7b(l:List zha):(valsP l=none->∀f∈l,(vDa f).Value.length<=4000)/\(valsP l≠none->∃f∈l,4000 < (vDa f).Value.length):=by
 refine kNb (jOb l) none (fun i=>i<=l.length/\∀j f,j < i->l[j]? =some f->(vDa f).Value.length<=4000) (fun r=>(r=none->∀f∈l,(vDa f).Value.length<=4000)/\(r≠none->∃f∈l,4000 < (vDa f).Value.length)) (fun i=>l.length - i) ?_ _ 0 ⟨Nat.zero_le _,fun j f h=>by omega⟩ (by omega);rintro i ⟨hi,hj⟩;unfold jOb;cases hf:l[i]? with
 | none=>
  refine ⟨fun s' e=>(by cases e),fun r e=>?_⟩;cases e;refine ⟨fun _ f hm=>?_,fun h=>absurd rfl h⟩;obtain ⟨j,hjf⟩:=List.getElem?_of_mem hm;have:=List.getElem?_eq_none_iff.1 hf;exact hj j f (by have:=zUa hjf;omega) hjf
 | some f=>
  dsimp only;by_cases h4:4000 < (jpa f.Value).length
  .rw[if_pos h4];refine ⟨fun s' e=>(by cases e),fun r e=>?_⟩;cases e;exact ⟨fun h=>(by cases h),fun _=>⟨f,List.mem_of_getElem? hf,h4⟩⟩
  rw[if_neg h4];refine ⟨fun s' e=>?_,fun r e=>by cases e⟩;cases e;have:=zUa hf;refine ⟨⟨by omega,fun j g hji hg=>?_⟩,by omega⟩;by_cases e:j=i
  .subst e;rw[hf]at hg;cases hg;exact Nat.le_of_not_lt h4
  exact hj j g (by omega) hg
def zeroM:zsa:=⟨[],[]⟩
def rawM(b:List UInt8):zsa:=⟨(wTa b).2.map vDa,yZa (b.drop (wTa b).1).length (b.drop (wTa b).1)⟩
def wUa(b:List UInt8):zsa × Bool:=
 if 60 < (wTa b).2.length then (zeroM,false) else if (msgF (rawM b)).Code=0 then (rawM b,true) else (zeroM,false)
theorem VPa(b:List UInt8)(hb:b.length<=12000):Yfa (rawM b):=by
 obtain ⟨h1,h2,h3⟩:=Yna b;refine ⟨⟨by show ((wTa b).2.map vDa).length<=_;simp;omega,fun f hf=>?_⟩,?_⟩
 .have hf:f∈(wTa b).2.map vDa:=hf;obtain ⟨g,hg,rfl⟩:=List.mem_map.1 hf;have:=h3 g hg;have h4:=JDa g.Value;show g.Name.length<=_/\(jpa g.Value).length<=_;omega
 show (yZa _ _).length<=_;have:=Yja (b.drop (wTa b).1).length (b.drop (wTa b).1);simp at this ⊢;omega
theorem Y5a(b:List UInt8)(hb:b.length<=12000):Qsa b=some (wUa b):=by
 obtain ⟨h1,h2,h3⟩:=Yna b;unfold Qsa;rw[(kOb b hb).2];simp only[Option.bind_some,encH];unfold wUa;by_cases h60:60 < (wTa b).2.length
 .rw[if_pos h60,decide_eq_true (by omega)];rfl
 rw[if_neg h60,decide_eq_false (by omega)];simp only[cond_false];rw[vals_ref _ (by omega) (fun f hf=>by have:=h3 f hf;omega)];simp only[Option.bind_some];rw[jLb b (by omega) _ h1];simp only[Option.bind_some];rw[show (⟨(wTa b).2.map vDa,yZa (b.drop (wTa b).1).length (b.drop (wTa b).1)⟩:zsa)=rawM b from rfl,j3a _ (VPa b hb)];simp only[Option.bind_some];by_cases h0:(msgF (rawM b)).Code=0
 .rw[if_pos h0,h0];rfl
 rw[if_neg h0,bne_iff_ne.2 h0];rfl
theorem Yoa(b:List UInt8)(hb:b.length<=12000):∃f:zva,yga b=some ((wUa b).1,f)/\(f.Code !=0)= !(wUa b).2:=by
 obtain ⟨h1,h2,h3⟩:=Yna b;unfold yga Zma;rw[decide_eq_false (by omega),(kOb b hb).1];simp only[cond_false,Option.bind_some,encH];unfold wUa;by_cases h60:60 < (wTa b).2.length
 .rw[if_pos h60,decide_eq_true (by omega)];exact ⟨⟨2, -2⟩,rfl,rfl⟩
 rw[if_neg h60,decide_eq_false (by omega)];simp only[cond_false];rw[jPb ((((wTa b).1:Nat):Int),(wTa b).2) (by show (wTa b).2.length<=_;omega) (fun f hf=>by have:=h3 f hf;omega)];simp only[Option.bind_some];obtain ⟨v1,v2⟩:=w7b (wTa b).2;cases hv:valsP (wTa b).2 with
 | none=>
  simp only[vout,Sum.elim_inl,qfa,Option.bind_some,kia];rw[show ((0:Int) !=0)=false from rfl];simp only[cond_false];rw[yXa h1];simp only[Option.bind_some];rw[Wpa _ (by simp;omega)];simp only[Option.bind_some];rw[show (⟨(wTa b).2.map vDa,yZa (b.drop (wTa b).1).length (b.drop (wTa b).1)⟩:zsa)=rawM b from rfl,Qxa _ (VPa b hb)];simp only[Option.bind_some];by_cases h0:(msgF (rawM b)).Code=0
  .rw[if_pos h0,h0];exact ⟨⟨0,0⟩,rfl,rfl⟩
  rw[if_neg h0,bne_iff_ne.2 h0];exact ⟨msgF (rawM b),rfl,by rw[bne_iff_ne.2 h0];rfl⟩
 | some i=>
  have h0:¬(msgF (rawM b)).Code=0:=by
   intro h0;obtain ⟨f,hf,h4⟩:=v2 (by rw[hv];simp);have hh:(ZLa (rawM b).Fields).Code=0:=by
    by_cases hz:(ZLa (rawM b).Fields).Code=0
    .exact hz
    unfold msgF at h0;rw[if_pos (by simp[hz])]at h0;exact h0
   have:=(zGb ((j2a _ hh).2.2 (vDa f) (List.mem_map.2 ⟨f,hf,rfl⟩))).2.1;omega
  rw[if_neg h0];exact ⟨⟨1,(i:Int)⟩,rfl,rfl⟩
theorem kHa{u:Nat}(h:u < 10):Lib.decDigits u=[UInt8.ofNat (48+u)]:=by rw[Lib.decDigits,dif_pos h]
theorem Kya{u:Nat}(h:¬u < 10):Lib.decDigits u=Lib.decDigits (u / 10)++Lib.decDigits (u % 10):=by
 rw[Lib.decDigits,dif_neg h,kHa (show u % 10 < 10 by omega)]
theorem Q5a:∀(k u:Nat),u < 10 ^ (k+1)->(Lib.decDigits u).length<=k+1
 | 0,u,h=>by rw[kHa (by simpa using h)];simp
 | k+1,u,h=>by
  by_cases h10:u < 10
  .rw[kHa h10];simp
  have:=Q5a k (u / 10) (by rw[Nat.pow_succ]at h;omega);rw[Kya h10,kHa (show u % 10 < 10 by omega)];simp;omega
theorem zNb(u:Nat):1<=(Lib.decDigits u).length:=by
 by_cases h10:u < 10
 .rw[kHa h10];simp
 rw[Kya h10,kHa (show u % 10 < 10 by omega)];simp
theorem iQuo10{u:Nat}(h:u<=9223372036854775807):iQuo (u:Int) 10=((u / 10:Nat):Int):=by
 unfold iQuo;rw[Int.tdiv_eq_ediv_of_nonneg (by omega),qsa (by omega) (by omega)];omega
theorem iRem10(u:Nat):iRem (u:Int) 10=((u % 10:Nat):Int):=by
 unfold iRem;rw[Int.tmod_eq_emod_of_nonneg (by omega)];omega
theorem jQb:∀u:Fin 10,cut ([48,49,50,51,52,53,54,55,56,57]:Str) (u.val:Int) (w64 ((u.val:Int)+1))=some [UInt8.ofNat (48+u.val)]:=by decide
theorem kRa{f g:Int->Option Str}(hf:∀n:Int,f n=bif decide (n < 10) then (cut ([48,49,50,51,52,53,54,55,56,57]:Str) n (w64 (n+1))).bind fun v2=>some v2 else (g (iQuo n 10)).bind fun v4=>(g (iRem n 10)).bind fun v6=>(cat v4 v6).bind fun v8=>some v8)
 (k:Nat) (hk:k<=17) (hg:∀u:Nat,u < 10 ^ k->1<=k->g (u:Int)=some (Lib.decDigits u)) (u:Nat) (hu:u < 10 ^ (k+1)):f (u:Int)=some (Lib.decDigits u):=by
 have hp:10 ^ (k+1)<=10 ^ 18:=Nat.pow_le_pow_right (by omega) (by omega);rw[hf];by_cases h10:u < 10
 .rw[decide_eq_true (by omega:(u:Int) < 10),cond_true,jQb ⟨u,h10⟩,kHa h10];rfl
 have hk1:1<=k:=by
  rcases Nat.eq_zero_or_pos k with rfl | h
  .simp at hu;omega
  exact h
 have h9:10 ^ 1<=10 ^ k:=Nat.pow_le_pow_right (by omega) hk1;rw[decide_eq_false (by omega:¬(u:Int) < 10),cond_false,iQuo10 (by omega),iRem10,hg _ (by rw[Nat.pow_succ]at hu;omega) hk1,hg _ (by omega) hk1,Kya h10];have h1:=Q5a 17 (u / 10) (by omega);have h2:=Q5a 17 (u % 10) (by omega);simp only[Option.bind_some];rw[wxa (by omega)];rfl
theorem Ypa(u:Nat)(h:u < 10 ^ 12):Zla (u:Int)=some (Lib.decDigits u):=by
 have h1:=kRa (f:=Qia) (g:=Qha) (fun _=>rfl) 0 (by omega) (fun _ _ h=>by omega);have h2:=kRa (f:=Qja) (fun _=>rfl) 1 (by omega) (fun u hu _=>h1 u hu);have h3:=kRa (f:=Qka) (fun _=>rfl) 2 (by omega) (fun u hu _=>h2 u hu);have h4:=kRa (f:=Qla) (fun _=>rfl) 3 (by omega) (fun u hu _=>h3 u hu);have h5:=kRa (f:=Qma) (fun _=>rfl) 4 (by omega) (fun u hu _=>h4 u hu);have h6:=kRa (f:=Qna) (fun _=>rfl) 5 (by omega) (fun u hu _=>h5 u hu);have h7:=kRa (f:=Qoa) (fun _=>rfl) 6 (by omega) (fun u hu _=>h6 u hu);have h8:=kRa (f:=Qpa) (fun _=>rfl) 7 (by omega) (fun u hu _=>h7 u hu);have h9:=kRa (f:=Qqa) (fun _=>rfl) 8 (by omega) (fun u hu _=>h8 u hu);have h10:=kRa (f:=Z7a) (fun _=>rfl) 9 (by omega) (fun u hu _=>h9 u hu);have h11:=kRa (f:=Z8a) (fun _=>rfl) 10 (by omega) (fun u hu _=>h10 u hu);exact kRa (f:=Zla) (fun _=>rfl) 11 (by omega) (fun u hu _=>h11 u hu) u h
theorem Kda(u:Nat)(h:u<=9223372036854775807):kba (u:Int)=some (Lib.decDigits u):=by
 unfold kba;rw[if_pos (by omega),Lib.itoa_nonneg]
theorem Kea(b:UInt8):∀(l:Str) (acc:Nat),Lib.decFrom acc (l++ [b])=(Lib.decFrom acc l).bind fun n=>(Lib.digitVal b).map fun d=>n * 10+d
 | [],acc=>by
  simp only[List.nil_append,Lib.decFrom,Option.bind_some];cases Lib.digitVal b <;> rfl
 | x::l,acc=>by
  rw[List.cons_append,Lib.decFrom,Lib.decFrom];cases Lib.digitVal x with
  | none=>rfl
  | some d=>exact Kea b l _
theorem jFa{d:Nat}(h:d < 10):Lib.digitVal (UInt8.ofNat (48+d))=some d:=by
 have e:(UInt8.ofNat (48+d)).toNat=48+d:=by rw[UInt8.toNat_ofNat'];omega
 unfold Lib.digitVal;rw[e,if_pos (by omega)]
 congr 1;omega
theorem Yqa:∀(k u:Nat),u < 10 ^ (k+1)->Lib.decFrom 0 (Lib.decDigits u)=some u
 | 0,u,h=>by
  rw[kHa (by simpa using h),Lib.decFrom,jFa (show u < 10 by simpa using h)];simp[Lib.decFrom]
 | k+1,u,h=>by
  by_cases h10:u < 10
  .rw[kHa h10,Lib.decFrom,jFa h10];simp[Lib.decFrom]
  rw[Kya h10,kHa (show u % 10 < 10 by omega),Kea,Yqa k (u / 10) (by rw[Nat.pow_succ]at h;omega),jFa (by omega)];simp;omega
theorem Qya(u:Nat):Lib.decFrom 0 (Lib.decDigits u)=some u:=by
 refine Yqa u u<|Nat.lt_of_lt_of_le (Nat.lt_pow_self (by omega)) (Nat.pow_le_pow_right (by omega) (by omega))
theorem decD_ne(u:Nat):Lib.decDigits u≠ []:=by
 intro h;have:=zNb u;rw[h]at this;simp at this
theorem Kza(u:Nat):Lib.decNat (Lib.decDigits u)=some u:=by
 unfold Lib.decNat;have:(Lib.decDigits u).isEmpty=false:=by
  cases h:Lib.decDigits u with
  | nil=>exact absurd h (decD_ne u)
  | cons x l=>rfl
 rw[this];exact Qya u
theorem Yra(u:Nat):∃(d:Nat) (r:Str),d < 10/\Lib.decDigits u=UInt8.ofNat (48+d)::r/\(10<=u->1<=d)/\(u < 10->r=[]):=by
 induction u using Nat.strongRecOn with
 | _ u ih=>
  by_cases h10:u < 10
  .exact ⟨u,[],h10,kHa h10,by omega,fun _=>rfl⟩
  obtain ⟨d,r,h1,h2,h3,h4⟩:=ih (u / 10) (by omega);refine ⟨d,r++Lib.decDigits (u % 10),h1,by rw[Kya h10,h2];rfl,fun _=>?_,by omega⟩;by_cases h5:10<=u / 10
  .exact h3 h5
  have h6:=kHa (show u / 10 < 10 by omega);rw[h2]at h6;injection h6 with h7 _
  have h8:=congrArg UInt8.toNat h7;rw[UInt8.toNat_ofNat',UInt8.toNat_ofNat']at h8;omega
theorem vhb(u:Nat):∀c∈Lib.decDigits u,48<=c.toNat/\c.toNat<=57:=by
 intro c hc;obtain ⟨k,hk⟩:=List.mem_iff_getElem?.1 hc;obtain ⟨d,hd⟩:=Lib.digit_of_decFrom _ _ _ (Qya u) k c hk;have:=Lib.digitVal_eq hd;omega
theorem JEa:∀(l:Str) (acc n:Nat),Lib.decFrom acc l=some n->acc<=n
 | [],acc,n,h=>by simp[Lib.decFrom]at h;omega
 | x::l,acc,n,h=>by
  rw[Lib.decFrom]at h;cases hd:Lib.digitVal x with
  | none=>rw[hd]at h;cases h
  | some d=>
   rw[hd]at h;have:=JEa l _ n h;omega
theorem kRb:∀(k:Nat) (s:Str) (m:Nat),s.length=k->Lib.decFrom 0 s=some m->s≠ []->(s.length=1∨s.head? ≠some 48)->Lib.decDigits m=s
 | 0,s,m,hk,h,hne,_=>absurd (List.length_eq_zero_iff.1 hk) hne
 | k+1,s,m,hk,h,hne,hz=>by
  obtain ⟨t,b,rfl⟩:∃t b,s=t++ [b]:=⟨s.dropLast,s.getLast hne,(List.dropLast_concat_getLast hne).symm⟩;rw[Kea]at h;cases ht:Lib.decFrom 0 t with
  | none=>rw[ht]at h;cases h
  | some n=>
   rw[ht]at h;cases hb:Lib.digitVal b with
   | none=>rw[hb]at h;cases h
   | some d=>
    rw[hb]at h;simp only[Option.bind_some,Option.map_some,Option.some.injEq]at h;subst h;obtain ⟨h1,h2,h3⟩:=Lib.digitVal_eq hb;have hbe:UInt8.ofNat (48+d)=b:=by
     rw[<-UInt8.toNat_inj,UInt8.toNat_ofNat'];omega
    cases t with
    | nil=>
     simp[Lib.decFrom]at ht;subst ht;rw[Nat.zero_mul,Nat.zero_add,kHa (by omega),hbe];rfl
    | cons x t=>
     have hx:x≠48:=by
      rcases hz with hz | hz
      .simp at hz
      intro e;subst e;simp at hz
     have hn1:1<=n:=by
      rw[Lib.decFrom]at ht;cases hx2:Lib.digitVal x with
      | none=>rw[hx2]at ht;cases ht
      | some e=>
       rw[hx2]at ht;have h4:=JEa t _ n ht;obtain ⟨h5,h6,h7⟩:=Lib.digitVal_eq hx2;have:x.toNat≠48:=fun e2=>hx (UInt8.toNat_inj.1 e2)
       omega
     have ih:=kRb k (x::t) n (by simp at hk ⊢;omega) ht (by simp) (.inr (by simpa using hx));rw[Kya (by omega),show (n * 10+d) / 10=n by omega,show (n * 10+d) % 10=d by omega,ih,kHa (by omega),hbe]
theorem wcb(m:Nat):Lib.atoi (Lib.decDigits m)=some (m:Int):=by
 obtain ⟨d,r,h1,h2,_⟩:=Yra m;have e45:(UInt8.ofNat (48+d)==45)=false:=by
  rw[beq_eq_false_iff_ne];intro e;have:=congrArg UInt8.toNat e;rw[UInt8.toNat_ofNat']at this;have h45:(45:UInt8).toNat=45:=rfl;omega
 have e43:(UInt8.ofNat (48+d)==43)=false:=by
  rw[beq_eq_false_iff_ne];intro e;have:=congrArg UInt8.toNat e;rw[UInt8.toNat_ofNat']at this;have h43:(43:UInt8).toNat=43:=rfl;omega
 have hd:=Kza m;rw[h2]at hd ⊢;unfold Lib.atoi;dsimp only;rw[e45,e43,hd];rfl
def numP(s:Str):Option Nat:=if s.length<=9 then (match Lib.decNat s with | some m=>if Lib.decDigits m=s then some m else none | none=>none) else none
theorem Ysa{s:Str}{m:Nat}(h:numP s=some m):s.length<=9/\Lib.decDigits m=s/\m < 1000000000:=by
 unfold numP at h;split at h
 .rename_i h9;split at h
  .rename_i n hn;split at h
   .rename_i he;cases h;have h1:=Lib.decFrom_lt _ _ _ (Lib.decNat_some hn).2;have h2:10 ^ s.length<=10 ^ 9:=Nat.pow_le_pow_right (by omega) h9;exact ⟨h9,he,by omega⟩
   cases h
  cases h
 cases h
theorem numP_dec{m:Nat}(h:m < 1000000000):numP (Lib.decDigits m)=some m:=by
 unfold numP;rw[if_pos (Q5a 8 m (by omega)),Kza];simp
theorem Yta(s:Str)(h9:s.length<=9):yca s 999999999=some (match numP s with | some m=>((m:Int),true) | none=>(0,false)):=by
 have hlen:s.length<=18:=by omega
 unfold yca via;rw[if_pos hlen];have noneCase:(∀m,s≠Lib.decDigits m)->numP s=none:=by
  intro hno;cases hm:numP s with
  | none=>rfl
  | some m=>exact absurd (Ysa hm).2.1.symm (hno m)
 cases ha:Lib.atoi s with
 | none=>
  have:numP s=none:=by
   refine noneCase fun m hm=>?_
   have h3:Lib.atoi s=some (m:Int):=by rw[hm];exact wcb m
   rw[h3]at ha;cases ha
  rw[this];rfl
 | some n=>
  obtain ⟨b0,r,hs,hc⟩:=Lib.atoi_cases ha;have hbig: -1000000000000000000 < n/\n < 1000000000000000000:=by
   rcases hc with ⟨_,m,_,hm,rfl⟩ | ⟨_,m,_,hm,rfl⟩ | ⟨_,_,m,hm,rfl⟩
   .have:=Lib.decFrom_lt18 hm (by rw[hs]at hlen;simp at hlen;omega);omega
   .have:=Lib.decFrom_lt18 hm (by rw[hs]at hlen;simp at hlen;omega);omega
   have:=Lib.decFrom_lt18 hm (by rw[<-hs];exact hlen);omega
  simp only[Option.bind_some,cond_false];unfold kba;rw[if_pos (by omega)];simp only[Option.bind_some];by_cases hi:Lib.itoa n=s
  .have:(Lib.itoa n !=s)=false:=by simp[hi]
   rw[this];simp only[cond_false];by_cases hn:n < 0
   .rw[decide_eq_true hn];have:numP s=none:=by
     refine noneCase fun m hm=>?_
     unfold Lib.itoa at hi;rw[if_pos hn]at hi;obtain ⟨d,r',h1,h2,_⟩:=Yra m;rw[hm,h2]at hi;injection hi with h3 _
     have:=congrArg UInt8.toNat h3;rw[UInt8.toNat_ofNat']at this;simp at this;omega
    rw[this];rfl
   rw[decide_eq_false hn];unfold Lib.itoa at hi;rw[if_neg hn]at hi;have hlt:n.toNat < 1000000000:=by
    have h1:=Lib.decFrom_lt _ _ _ (Qya n.toNat);rw[hi]at h1;have h2:10 ^ s.length<=10 ^ 9:=Nat.pow_le_pow_right (by omega) h9;omega
   have hP:numP s=some n.toNat:=by rw[<-hi];exact numP_dec hlt
   rw[hP];simp only[cond_false];rw[decide_eq_false (by omega)];simp only[cond_false,Option.bind_some];rw[show ((n.toNat:Nat):Int)=n by omega]
  have:(Lib.itoa n !=s)=true:=by simpa using hi
  rw[this];have hP:numP s=none:=by
   refine noneCase fun m hm=>hi ?_
   have h3:Lib.atoi s=some (m:Int):=by rw[hm];exact wcb m
   rw[ha]at h3;cases h3;rw[Lib.itoa_nonneg,hm]
  rw[hP];rfl
theorem Yua(s:Str)(hs:s.length<=9):∀(r p:Str) (acc:Nat),s=p++r->acc < 10 ^ p.length->iter (wOa s) ((acc:Int),(p.length:Int))=some (match Lib.decFrom acc r with | some m=>.inl (m:Int) | none=>.inr (-1))
 | [],p,acc,h,ha=>by
  rw[List.append_nil]at h;subst h;refine zGa ?_;unfold wOa;dsimp only;rw[zRa];rfl
 | x::r,p,acc,h,ha=>by
  have hp:p.length<=8:=by have:=congrArg List.length h;simp at this;omega
  have hpw:10 ^ p.length<=10 ^ 8:=Nat.pow_le_pow_right (by omega) hp;have hx:s[p.length]? =some x:=by rw[h];simp
  have hin:R_In (x.toNat:Int) 48 57=some (decide (48<=x.toNat) && decide (x.toNat<=57)):=by
   rw[vka]
   congr 2 <;> (rw[Bool.eq_iff_iff,decide_eq_true_eq,decide_eq_true_eq];omega)
  by_cases hd:48<=x.toNat/\x.toNat<=57
  .have hv:Lib.digitVal x=some (x.toNat - 48):=by unfold Lib.digitVal;rw[if_pos hd]
   have h2:(x - 48).toNat=x.toNat - 48:=UInt8.toNat_sub_of_le x 48 (by rw[UInt8.le_iff_toNat_le];exact hd.1);have qla:wOa s ((acc:Int),(p.length:Int))=some (.cont (((acc * 10+(x.toNat - 48):Nat):Int),((p.length+1:Nat):Int))):=by
    unfold wOa;dsimp only;rw[kqa hx,zJa hx];simp only[cond_true,Option.bind_some,hin];rw[decide_eq_true hd.1,decide_eq_true hd.2,h2];have e1:w64 (10 * (acc:Int))=10 * (acc:Int):=qsa (by omega) (by omega);simp only[Bool.and_true,Bool.not_true,cond_false,sc p.length (by omega)];rw[e1,qsa (by omega) (by omega)]
    congr 3
    omega
   rw[zNa qla];have:=Yua s hs r (p++ [x]) (acc * 10+(x.toNat - 48)) (by simp[h]) (by simp[Nat.pow_succ];omega);simp only[List.length_append,List.length_cons,List.length_nil]at this;rw[show 0+1=1 from rfl]at this;rw[this,Lib.decFrom,hv]
  have hv:Lib.digitVal x=none:=by unfold Lib.digitVal;rw[if_neg hd]
  have hb:(decide (48<=x.toNat) && decide (x.toNat<=57))=false:=by
   cases h1:decide (48<=x.toNat) && decide (x.toNat<=57) with
   | false=>rfl
   | true=>simp only[Bool.and_eq_true,decide_eq_true_eq]at h1;exact absurd h1 hd
  rw[Lib.decFrom,hv];refine zGa ?_;unfold wOa;dsimp only;rw[kqa hx,zJa hx];simp only[cond_true,Option.bind_some,hin,hb];rfl
theorem Zva(s:Str)(hs:s.length<=1048576):WJa s=some (match numP s with | some m=>(m:Int) | none=> -1):=by
 unfold WJa;rw[vka];by_cases h9:1<=s.length/\s.length<=9
 .have e:(decide ((1:Int)<=(s.length:Int)) && decide ((s.length:Int)<=9))=true:=by simp;omega
  rw[e];simp only[Option.bind_some,Bool.not_true,cond_false];cases s with
  | nil=>simp at h9
  | cons x r=>
   have e0:idx (x::r) 0=some x:=rfl;rw[e0];simp only[Option.bind_some,qEa x 48 (by decide)];have loop:=Yua (x::r) h9.2 (x::r) [] 0 rfl (by simp);rw[show (((0:Nat):Int),(([]:Str).length:Int))=((0:Int),(0:Int)) from rfl]at loop;rw[loop];by_cases hz:1 < (x::r).length/\x=48
   .obtain ⟨h1,rfl⟩:=hz;rw[decide_eq_true (by omega)];have hP:numP (48::r)=none:=by
     cases hm:numP (48::r) with
     | none=>rfl
     | some m=>
      obtain ⟨_,h2,_⟩:=Ysa hm;obtain ⟨d,r',h3,h4,h5,h6⟩:=Yra m;rw[h2]at h4;injection h4 with h7 h8
      have h9' :=congrArg UInt8.toNat h7;rw[UInt8.toNat_ofNat']at h9';have hd0:d=0:=by
       have:(48:UInt8).toNat=48:=rfl;omega
      by_cases h10:10<=m
      .have:=h5 h10;omega
      have:=h6 (by omega);rw[h8]at h1;rw[this]at h1;simp at h1
    rw[hP];rfl
   have e1:(bif decide ((1:Int) < (((x::r).length:Nat):Int)) then some (x==48) else some false)=some false:=by
    by_cases h1:1 < (x::r).length
    .have hx:x≠48:=fun e=>hz ⟨h1,e⟩
     rw[decide_eq_true (by omega)];simpa using hx
    rw[decide_eq_false (by omega)];rfl
   rw[e1];simp only[Option.bind_some,cond_false];have hd:Lib.decNat (x::r)=Lib.decFrom 0 (x::r):=rfl;unfold numP;rw[if_pos h9.2,hd];cases hm:Lib.decFrom 0 (x::r) with
   | none=>rfl
   | some m=>
    have hc:=kRb _ (x::r) m rfl hm (by simp) (by
     by_cases h1:(x::r).length=1
     .exact .inl h1
     right;have hx:x≠48:=fun e=>hz ⟨by have:(x::r).length=r.length+1:=rfl;omega,e⟩
     simpa using hx)
    simp only[hc,if_true];rfl
 have e:(decide ((1:Int)<=(s.length:Int)) && decide ((s.length:Int)<=9))=false:=by
  cases h1:decide ((1:Int)<=(s.length:Int)) && decide ((s.length:Int)<=9) with
  | false=>rfl
  | true=>simp at h1;exact absurd ⟨by omega,by omega⟩ h9
 rw[e];have hP:numP s=none:=by
  cases hm:numP s with
  | none=>rfl
  | some m=>
   obtain ⟨h1,h2,_⟩:=Ysa hm;have:=zNb m;rw[h2]at this;exact absurd ⟨this,h1⟩ h9
 rw[hP];rfl
theorem wVa(s:Str):qWa s=some (match numP s with | some m=>((m:Int),true) | none=>(0,false)):=by
 unfold qWa;by_cases h9:s.length<=9
 .rw[decide_eq_false (by omega),Yta s h9];cases numP s <;> rfl
 rw[decide_eq_true (by omega)];have:numP s=none:=by unfold numP;rw[if_neg h9]
 rw[this];rfl
instance:DecidableEq zha:=fun a b=>decidable_of_iff (a.Name=b.Name/\a.Value=b.Value) (by cases a;cases b;simp)
instance:DecidableEq zsa:=fun a b=>decidable_of_iff (a.Fields=b.Fields/\a.Body=b.Body) (by cases a;cases b;simp)
instance:DecidableEq zVa:=fun a b=>decidable_of_iff (a.Envelope=b.Envelope/\a.Message=b.Message) (by cases a;cases b;simp)
theorem low_add(c:UInt8):c+97 - 65=c+32:=by
 rw[<-UInt8.toNat_inj];have:=c.toNat_lt;simp only[UInt8.toNat_add,UInt8.toNat_sub,UInt8.reduceToNat];omega
theorem VQa(s:Str)(hs:s.length<=1048576):W6a s=some (lowP s):=by
 unfold W6a lowP;have:=(yYa s (fun i (o:List UInt8)=>(i,o)) (fun o c=>o++ [lowC c]) id (fun i o=>o.length<=i) (body:=Kwa s)
  (fun o _=>by unfold Kwa;simp[zRa]) (fun i c o hx hi=>by
   have hlt:=zUa hx;refine ⟨?_,by simp;omega⟩;unfold Kwa;dsimp only;rw[kqa hx,zJa hx];simp only[cond_true,Option.bind_some,vka,jia 65 c (by decide),jja 90 c (by decide),sc i (by omega)];have hl:((bif (decide ((65:UInt8)<=c) && decide (c<=90)) then some (c+32) else some c):Option UInt8)=some (lowC c):=by
    unfold lowC;rw[low_add];cases decide ((65:UInt8)<=c) && decide (c<=90) <;> rfl
   rw[hl];simp only[Option.bind_some];rw[zYa (by simp;omega)];rfl) [] (by simp)).1
 rw[this,map_fold];simp
theorem Q6a(m:zsa)(hf:m.Fields.length<=1048576):wra m m=some true:=by
 unfold wra;have e1:((m.Fields.length:Int) !=(m.Fields.length:Int))=false:=by simp
 have e2:(m.Body !=m.Body)=false:=by simp
 rw[e1,e2];simp only[cond_false,Option.bind_some];rw[zQa m.Fields (fun _ _=>none) (.inl ()) .inr]
 .have:zFa (fun _ _=>(none:Option Bool)) 0 m.Fields=none:=by rw[v6a];intro i x _;rfl
  simp only[Option.bind_some];rw[this];rfl
 .unfold vXa;rw[zRa];rfl
 intro i f hx;have hi:=zUa hx;unfold vXa;rw[kqa hx,zJa hx];simp only[cond_true,Option.bind_some,sc i (by omega)];simp[jwa]
theorem Yva(m:zVa)(h1:m.Envelope.To.length<=1048576)(h2:m.Message.Fields.length<=1048576):jXa m m=some true:=by
 unfold jXa;have e1:(m.Envelope.From !=m.Envelope.From)=false:=by simp
 have e2:(m.Envelope.Id !=m.Envelope.Id)=false:=by simp
 have e3:((m.Envelope.To.length:Int) !=(m.Envelope.To.length:Int))=false:=by simp
 rw[e1,e2,e3];simp only[cond_false,Option.bind_some];rw[zQa m.Envelope.To (fun _ _=>none) (.inl ()) .inr]
 .have:zFa (fun _ _=>(none:Option Bool)) 0 m.Envelope.To=none:=by rw[v6a];intro i x _;rfl
  simp only[Option.bind_some];rw[this];simp only[Option.elim_none,Sum.elim_inl];rw[Q6a _ h2];rfl
 .unfold yBa;rw[zRa];rfl
 intro i f hx;have hi:=zUa hx;unfold yBa;rw[kqa hx,zJa hx];simp only[cond_true,Option.bind_some,sc i (by omega)];simp[jwa]
def vla(c:UInt8):Str->List Str
 | []=>[[]]
 | b::r=>if b=c then []::vla c r else match vla c r with
  | x::l=>(b::x)::l
  | []=>[[b]]
theorem Kfa(c:UInt8)(s:Str):∃x l,vla c s=x::l:=by
 cases s with
 | nil=>exact ⟨_,_,rfl⟩
 | cons b r=>
  unfold vla;split
  .exact ⟨_,_,rfl⟩
  split <;> exact ⟨_,_,rfl⟩
theorem Q7a(c:UInt8)(r:Str):vla c (c::r)=[]::vla c r:=by rw[vla,if_pos rfl]
theorem Zwa{b c:UInt8}(h:b≠c){r x:Str}{l:List Str}(hr:vla c r=x::l):vla c (b::r)=(b::x)::l:=by
 rw[vla,if_neg h,hr]
theorem kSb(c:UInt8)(s:Str):(vla c s).length<=s.length+1:=by
 induction s with
 | nil=>simp[vla]
 | cons b r ih=>
  by_cases hb:b=c
  .subst hb;rw[Q7a];simp;omega
  obtain ⟨x,t,hx⟩:=Kfa c r;rw[hx]at ih;rw[Zwa hb hx];simp at ih ⊢;omega
theorem w8b{c:UInt8}{s x:Str}(h:x∈vla c s):x.length<=s.length:=by
 induction s generalizing x with
 | nil=>simp[vla]at h;subst h;simp
 | cons b r ih=>
  by_cases hb:b=c
  .subst hb;rw[Q7a]at h;rcases List.mem_cons.1 h with rfl | h
   .simp
   have:=ih h;simp;omega
  obtain ⟨y,t,hy⟩:=Kfa c r;rw[Zwa hb hy]at h;rcases List.mem_cons.1 h with rfl | h
  .have:=ih (x:=y) (by rw[hy];simp);simp;omega
  have:=ih (x:=x) (by rw[hy];simp[h]);simp;omega
theorem w9b{c:UInt8}{x r:Str}(h:c ∉ x):vla c (x++c::r)=x::vla c r:=by
 induction x with
 | nil=>exact Q7a c r
 | cons b x ih=>
  simp at h;rw[List.cons_append,Zwa (Ne.symm h.1) (ih h.2)]
def nonE(l:List Str):List Str:=l.filter fun x=> !x.isEmpty
def vma(s:Str):List Str:=nonE (vla 32 s)
def wrd(cur r:Str):List Str:=match vla 32 r with
 | x::l=>nonE ((cur++x)::l)
 | []=>[]
theorem jRb(s:Str):wrd [] s=vma s:=by
 unfold wrd vma;obtain ⟨x,l,h⟩:=Kfa 32 s;rw[h];rfl
theorem jSb(cur:Str):wrd cur []=nonE [cur]:=by unfold wrd;simp[vla]
theorem kTb(x:Str)(l:List Str):nonE (x::l)=nonE [x]++nonE l:=by unfold nonE;cases h:x.isEmpty <;> simp[h]
theorem wrd_sp(cur r:Str):wrd cur (32::r)=nonE [cur]++wrd [] r:=by
 obtain ⟨x,l,h⟩:=Kfa 32 r;have e:vla 32 (32::r)=[]::x::l:=by rw[Q7a,h]
 unfold wrd;rw[e,h];show nonE ((cur++ [])::x::l)=nonE [cur]++nonE (([]++x)::l);rw[List.append_nil,kTb];rfl
theorem Kga{c:UInt8}:∀{k r x:Str} {l:List Str},c ∉ k->vla c r=x::l->vla c (k++r)=(k++x)::l
 | [],_,_,_,_,h=>h
 | b::k,r,x,l,hk,h=>by
  simp at hk;rw[List.cons_append,Zwa (Ne.symm hk.1) (Kga hk.2 h)];rfl
theorem Ywa{k:Str}(cur r:Str)(hk:(32:UInt8) ∉ k):wrd cur (k++r)=wrd (cur++k) r:=by
 obtain ⟨x,l,h⟩:=Kfa 32 r;unfold wrd;rw[Kga hk h,h];show nonE ((cur++(k++x))::l)=nonE ((cur++k++x)::l);rw[List.append_assoc]
theorem getB{l:Str}{i:Nat}(h:i < l.length):(strB l).get! i=l[i]:=by
 show (strB l).data[i]! =_;simp[strB,h]
theorem jTb{l:Str}{i:Nat}(h:i < l.length):(l[i]=32->Utf8.decode (strB l) i=(32,1))/\
 (l[i]≠32->(Utf8.decode (strB l) i).1≠32/\1<=(Utf8.decode (strB l) i).2/\i+(Utf8.decode (strB l) i).2<=l.length/\∀k (hk:i+k < l.length),k < (Utf8.decode (strB l) i).2->l[i+k]≠32):=by
 have hz:(strB l).size=l.length:=rfl;have e0:(strB l).get! (i+0)=l[i]:=getB h;have hne:∀{u:UInt8},u.toNat / 64=2->u≠32:=fun hu e=>by subst e;exact absurd hu (by decide)
 constructor
 .intro h32;unfold Utf8.decode;simp only[e0,h32];rfl
 intro h32;have hb:l[i].toNat≠32:=fun e=>h32 (UInt8.toNat_inj.1 e)
 have d0:∀(n:Nat),n=1->∀k (hk:i+k < l.length),k < n->l[i+k]≠32:=by
  intro n hn k hk hkn;have:k=0:=by omega
  subst this;exact h32
 have gt:∀k,(decide (i+k < (strB l).size) && ((strB l).get! (i+k)).toNat / 64==2)=true->∃hk:i+k < l.length,l[i+k]≠32:=by
  intro k hk;simp only[Bool.and_eq_true,decide_eq_true_eq,beq_iff_eq,hz]at hk;refine ⟨hk.1,hne ?_⟩;rw[<-getB hk.1];exact hk.2
 unfold Utf8.decode;simp only[e0];split
 .exact ⟨hb,by simp,by simp;omega,d0 _ rfl⟩
 split
 .rename_i hc;simp only[Bool.and_eq_true]at hc;obtain ⟨h1,n1⟩:=gt 1 (by simpa using hc.2);try dsimp only
  split
  .refine ⟨by dsimp only;omega,by simp,by simp;omega,fun k hk hkn=>?_⟩;dsimp only at hkn;obtain rfl | rfl:k=0∨k=1:=by omega
   .exact h32
   exact n1
  exact ⟨by decide,by simp,by simp;omega,d0 _ rfl⟩
 split
 .rename_i hc;simp only[Bool.and_eq_true]at hc;obtain ⟨h1,n1⟩:=gt 1 (by simpa using hc.1.2);obtain ⟨h2,n2⟩:=gt 2 (by simpa using hc.2);try dsimp only
  split
  .rename_i hv;simp only[Bool.and_eq_true,decide_eq_true_eq]at hv;refine ⟨by dsimp only;omega,by simp,by simp;omega,fun k hk hkn=>?_⟩;dsimp only at hkn;obtain rfl | rfl | rfl:k=0∨k=1∨k=2:=by omega
   .exact h32
   .exact n1
   exact n2
  exact ⟨by decide,by simp,by simp;omega,d0 _ rfl⟩
 split
 .rename_i hc;simp only[Bool.and_eq_true]at hc;obtain ⟨h1,n1⟩:=gt 1 (by simpa using hc.1.1.2);obtain ⟨h2,n2⟩:=gt 2 (by simpa using hc.1.2);obtain ⟨h3,n3⟩:=gt 3 (by simpa using hc.2);try dsimp only
  split
  .rename_i hv;simp only[Bool.and_eq_true,decide_eq_true_eq]at hv;refine ⟨by dsimp only;omega,by simp,by simp;omega,fun k hk hkn=>?_⟩;dsimp only at hkn;obtain rfl | rfl | rfl | rfl:k=0∨k=1∨k=2∨k=3:=by omega
   .exact h32
   .exact n1
   .exact n2
   exact n3
  exact ⟨by decide,by simp,by simp;omega,d0 _ rfl⟩
 exact ⟨by decide,by simp,by simp;omega,d0 _ rfl⟩
def curP(l:Str)(pos:Nat):Option Nat->Str
 | none=>[]
 | some a=>(l.drop a).take (pos - a)
def exP(l:Str)(x:Nat × Nat):Str:=((strB l).extract x.1 x.2).data.toList
theorem exP_eq(l:Str)(a b:Nat):exP l (a,b)=(l.drop a).take (b - a):=by
 unfold exP;rw[Lib.extract_data];simp[strB]
theorem spans_eq(l:Str):∀(f pos:Nat) (st:Option Nat) (acc:List (Nat × Nat)),l.length<=pos+f->pos<=l.length->(∀a,st=some a->a < pos)->
 (Lib.closeSpans (strB l) (Lib.spansFromP sp32 (strB l) f pos st acc)).map (exP l)=acc.map (exP l)++wrd (curP l pos st) (l.drop pos):=by
 have fin:∀(pos:Nat) (st:Option Nat) (acc:List (Nat × Nat)),pos=l.length->(∀a,st=some a->a < pos)->(Lib.closeSpans (strB l) (acc,st)).map (exP l)=acc.map (exP l)++wrd (curP l pos st) (l.drop pos):=by
  intro pos st acc hp hst;subst hp;rw[List.drop_length,jSb];cases st with
  | none=>simp[Lib.closeSpans,curP,nonE]
  | some a=>
   have ha:=hst a rfl;have e:curP l l.length (some a)=l.drop a:=by show (l.drop a).take (l.length - a)=_;rw[List.take_of_length_le (by simp)]
   rw[e];have hne:(l.drop a).isEmpty=false:=by
    cases hd:l.drop a with
    | nil=>have:=congrArg List.length hd;simp at this;omega
    | cons x y=>rfl
   have hz:(strB l).size=l.length:=rfl;simp[Lib.closeSpans,nonE,hne,exP_eq,hz,List.take_of_length_le]
 intro f;induction f with
 | zero=>
  intro pos st acc h1 h2 h3;unfold Lib.spansFromP;exact fin pos st acc (by omega) h3
 | succ f ih=>
  intro pos st acc h1 h2 h3;by_cases hlt:pos < l.length
  .have hz:pos < (strB l).size:=hlt;obtain ⟨d1,d2⟩:=jTb hlt;have hdr:l.drop pos=l[pos]::l.drop (pos+1):=List.drop_eq_getElem_cons hlt;unfold Lib.spansFromP;rw[if_pos hz];by_cases h32:l[pos]=32
   .rw[d1 h32];rw[show sp32 (32,1).1=true by decide,if_pos rfl];dsimp only;rw[hdr,h32,wrd_sp];cases st with
    | none=>
     dsimp only;rw[ih (pos+1) none acc (by omega) (by omega) (fun a h=>by cases h)];simp[curP,nonE]
    | some a=>
     have ha:=h3 a rfl;dsimp only;rw[ih (pos+1) none (acc++ [(a,pos)]) (by omega) (by omega) (fun a h=>by cases h)];have hne:((l.drop a).take (pos - a)).isEmpty=false:=by
      cases hd:(l.drop a).take (pos - a) with
      | nil=>have:=congrArg List.length hd;simp at this;omega
      | cons x y=>rfl
     simp[curP,nonE,exP_eq,hne]
   obtain ⟨e1,e2,e3,e4⟩:=d2 h32;generalize Utf8.decode (strB l) pos=d at e1 e2 e3 e4;obtain ⟨r,n⟩:=d;dsimp only at e1 e2 e3 e4;have hsp:sp32 r=false:=by unfold sp32;rw[decide_eq_false];omega
   rw[hsp];simp only[Bool.false_eq_true,if_false];have hk:(32:UInt8) ∉ (l.drop pos).take n:=by
    intro hm;obtain ⟨k,hk⟩:=List.mem_iff_getElem?.1 hm;rw[List.getElem?_take]at hk;split at hk
    .rename_i hkn;rw[List.getElem?_drop]at hk;have hkl:=(List.getElem?_eq_some_iff.1 hk).1;have hke:=(List.getElem?_eq_some_iff.1 hk).2;exact e4 k hkl hkn hke
    cases hk
   have hsplit:l.drop pos=(l.drop pos).take n++l.drop (pos+n):=by
    rw[<-List.drop_drop,List.take_append_drop]
   cases st with
   | none=>
    dsimp only;rw[ih (pos+n) (some pos) acc (by omega) e3 (fun a h=>by cases h;omega)]
    conv=>rhs;rw[hsplit,Ywa _ _ hk]
    congr 2
    simp[curP]
   | some a=>
    have ha:=h3 a rfl;dsimp only;rw[ih (pos+n) (some a) acc (by omega) e3 (fun b h=>by cases h;omega)]
    conv=>rhs;rw[hsplit,Ywa _ _ hk]
    congr 2
    show (l.drop a).take (pos+n - a)=(l.drop a).take (pos - a)++(l.drop pos).take n;rw[show pos+n - a=(pos - a)+n by omega,List.take_add,List.drop_drop,show a+(pos - a)=pos by omega]
  rw[Lib.spansFromP_end _ _ _ _ _ _ (by show ¬pos < l.length;exact hlt)];exact fin pos st acc (by omega) h3
theorem vib(l:Str):(Lib.goFieldsP sp32 (strB l)).map (fun b=>b.data.toList)=vma l:=by
 have h:=spans_eq l l.length 0 none [] (by omega) (by omega) (fun a h=>by cases h);rw[List.drop_zero]at h;unfold Lib.goFieldsP Lib.spansOfP;rw[List.map_map];rw[show ((fun b:ByteArray=>b.data.toList) ∘ fun x:Nat × Nat=>(strB l).extract x.1 x.2)=exP l from rfl];rw[show (strB l).size=l.length from rfl,h];simp[curP,jRb]
theorem wdb(a b:Bool):(bif a then some b else some false:Option Bool)=some (a && b):=by cases a <;> rfl
theorem or_some(a b:Bool):(bif a then some true else some b:Option Bool)=some (a || b):=by cases a <;> rfl
def VRa(c:zma):Bool:=(c.Verb==1 || c.Name==([]:Str)) && (c.Verb==2 || c.Verb==3 || c.Address==([]:Str)) && (c.Verb==2 || c.Verb==5 || c.Size==0) && (c.Verb==3 || c.Notify==0) && (c.Verb==5 || c.Last==false)
def cmdF(c:zma):zva:=
 bif decide (c.Verb < 1) || decide (8 < c.Verb) then ⟨4, -2⟩ else bif !VRa c then ⟨5, -3⟩ else bif c.Verb==1 && !wDa c.Name then ⟨10, -4⟩ else
 bif (c.Verb==3 || (c.Verb==2 && c.Address !=([]:Str))) && !kGa c.Address then ⟨10, -5⟩ else bif decide (c.Size < 0) || decide (1000000 < c.Size) then ⟨3, -6⟩ else
 bif !kUa c.Notify then ⟨3, -7⟩ else ⟨0,0⟩
theorem five(v:Int):v=1∨v=2∨v=3∨v=5∨((v==1)=false/\(v==2)=false/\(v==3)=false/\(v==5)=false):=by
 simp only[beq_eq_false_iff_ne];omega
theorem used_eq(c:zma):∃u,yba c=some u/\jwa [(c.Verb==u.Verb),(c.Name==u.Name),(c.Address==u.Address),(c.Size==u.Size),(c.Notify==u.Notify),(c.Last==u.Last)]=VRa c:=by
 obtain ⟨v,n,a,s,o,l⟩:=c;rcases five v with rfl | rfl | rfl | rfl | ⟨h1,h2,h3,h5⟩
 .exact ⟨⟨1,n,[],0,0,false⟩,rfl,by simp[jwa,VRa,Bool.and_assoc]⟩
 .exact ⟨⟨2,[],a,s,0,false⟩,rfl,by simp[jwa,VRa,Bool.and_assoc]⟩
 .exact ⟨⟨3,[],a,0,o,false⟩,rfl,by simp[jwa,VRa,Bool.and_assoc]⟩
 .exact ⟨⟨5,[],[],s,0,l⟩,rfl,by simp[jwa,VRa,Bool.and_assoc]⟩
 refine ⟨⟨v,[],[],0,0,false⟩,?_,?_⟩
 .unfold yba;dsimp only;rw[h1,h2,h3,h5];rfl
 unfold VRa;dsimp only;rw[h1,h2,h3,h5];simp[jwa,Bool.and_assoc]
def zOb(c:zma):Prop:=c.Name.length<=1048576/\c.Address.length<=1048576
theorem Qza(c:zma)(h:zOb c):qSa c=some (cmdF c):=by
 obtain ⟨u,hu,he⟩:=used_eq c;unfold qSa cmdF;rw[hu];simp only[Option.bind_some,he,QXa _ h.1,qNa _ (show c.Address.length < 4294967281 by have:=h.2;omega),wya,kra,qfa,wdb,or_some];cases decide (c.Verb < 1) || decide (8 < c.Verb) with
 | true=>rfl
 | false=>
  cases VRa c with
  | false=>rfl
  | true=>
   cases c.Verb==1 && !wDa c.Name with
   | true=>rfl
   | false=>
    cases (c.Verb==3 || (c.Verb==2 && c.Address !=([]:Str))) && !kGa c.Address with
    | true=>rfl
    | false=>
     cases decide (c.Size < 0) || decide (1000000 < c.Size) with
     | true=>rfl
     | false=>cases kUa c.Notify <;> rfl
theorem VSa(c:zma)(h:zOb c):jxa c=some (cmdF c):=by
 have hN:=Qwa _ h.1;have hA:=jza c.Address (by have:=h.2;omega);unfold jxa cmdF;rw[vka];have e1:(!(decide (1<=c.Verb) && decide (c.Verb<=8)))=(decide (c.Verb < 1) || decide (8 < c.Verb)):=by
  rw[Bool.eq_iff_iff];simp
 simp only[Option.bind_some,e1,jAa];cases hv:decide (c.Verb < 1) || decide (8 < c.Verb) with
 | true=>rfl
 | false=>
  simp only[cond_false,hN,hA,Option.bind_some,vka];obtain ⟨v,n,a,s,o,l⟩:=c;dsimp only at *;have en:(n !=([]:Str))= !(n==([]:Str)):=rfl;have ea:(a !=([]:Str))= !(a==([]:Str)):=rfl;have es:(s !=(0:Int))= !(s==0):=rfl;have eo:(o !=(0:Int))= !(o==0):=rfl;have e0:(0:Int)<=1000000:=by omega
  have sz:(decide (0<=s) && decide (s<=1000000))= !(decide (s < 0) || decide (1000000 < s)):=by rw[Bool.eq_iff_iff];simp
  have sz0:s=0->(decide (s < 0) || decide (1000000 < s))=false:=fun e=>by subst e;rfl
  have no0:o=0->kUa o=true:=fun e=>by subst e;rfl
  have nop:(decide (0<=o) && decide (o<=7))=kUa o:=rfl;rw[en,ea,es,eo,sz,nop];unfold VRa;dsimp only;rcases five v with rfl | rfl | rfl | rfl | ⟨h1,h2,h3,h5⟩
  .simp only[show ((1:Int)==1)=true from rfl,show ((1:Int)==2)=false from rfl,show ((1:Int)==3)=false from rfl,show ((1:Int)==5)=false from rfl,show ((1:Int) !=1)=false from rfl,show ((1:Int) !=2)=true from rfl,show ((1:Int) !=3)=true from rfl,show ((1:Int) !=5)=true from rfl];cases a==([]:Str) with
   | false=>rfl
   | true=>
    cases hs:s==0 with
    | false=>rfl
    | true=>
     cases ho:o==0 with
     | false=>rfl
     | true=>
      rw[sz0 (by simpa using hs),no0 (by simpa using ho)];cases l <;> cases wDa n <;> rfl
  .simp only[show ((2:Int)==1)=false from rfl,show ((2:Int)==2)=true from rfl,show ((2:Int)==3)=false from rfl,show ((2:Int)==5)=false from rfl,show ((2:Int) !=1)=true from rfl,show ((2:Int) !=2)=false from rfl,show ((2:Int) !=3)=true from rfl,show ((2:Int) !=5)=true from rfl];cases n==([]:Str) with
   | false=>rfl
   | true=>
    cases ho:o==0 with
    | false=>rfl
    | true=>
     rw[no0 (by simpa using ho)];cases l <;> cases a==([]:Str) <;> cases kGa a <;> cases (decide (s < 0) || decide (1000000 < s)) <;> rfl
  .simp only[show ((3:Int)==1)=false from rfl,show ((3:Int)==2)=false from rfl,show ((3:Int)==3)=true from rfl,show ((3:Int)==5)=false from rfl,show ((3:Int) !=1)=true from rfl,show ((3:Int) !=2)=true from rfl,show ((3:Int) !=3)=false from rfl,show ((3:Int) !=5)=true from rfl];cases n==([]:Str) with
   | false=>rfl
   | true=>
    cases hs:s==0 with
    | false=>rfl
    | true=>
     rw[sz0 (by simpa using hs)];cases l <;> cases kGa a <;> cases kUa o <;> rfl
  .simp only[show ((5:Int)==1)=false from rfl,show ((5:Int)==2)=false from rfl,show ((5:Int)==3)=false from rfl,show ((5:Int)==5)=true from rfl,show ((5:Int) !=1)=true from rfl,show ((5:Int) !=2)=true from rfl,show ((5:Int) !=3)=true from rfl,show ((5:Int) !=5)=false from rfl];cases n==([]:Str) with
   | false=>rfl
   | true=>
    cases a==([]:Str) with
    | false=>rfl
    | true=>
     cases ho:o==0 with
     | false=>rfl
     | true=>
      rw[no0 (by simpa using ho)];cases (decide (s < 0) || decide (1000000 < s)) <;> rfl
  have n1:(v !=1)=true:=by unfold bne;rw[h1];rfl
  have n2:(v !=2)=true:=by unfold bne;rw[h2];rfl
  have n3:(v !=3)=true:=by unfold bne;rw[h3];rfl
  have n5:(v !=5)=true:=by unfold bne;rw[h5];rfl
  rw[h1,h2,h3,h5,n1,n2,n3,n5];cases n==([]:Str) with
  | false=>rfl
  | true=>
   cases a==([]:Str) with
   | false=>rfl
   | true=>
    cases hs:s==0 with
    | false=>rfl
    | true=>
     cases ho:o==0 with
     | false=>rfl
     | true=>
      rw[sz0 (by simpa using hs),no0 (by simpa using ho)];cases l <;> rfl
structure zPb (c:zma):Prop where
 verb:1<=c.Verb/\c.Verb<=8
 used:VRa c=true
 name:c.Verb=1->wDa c.Name=true
 addr:c.Verb=3∨(c.Verb=2/\c.Address≠ [])->kGa c.Address=true
 size:0<=c.Size/\c.Size<=1000000
 note:0<=c.Notify/\c.Notify<=7
theorem jUb{c:zma}(h:(cmdF c).Code=0):zPb c/\cmdF c=⟨0,0⟩:=by
 unfold cmdF at h ⊢;cases h1:decide (c.Verb < 1) || decide (8 < c.Verb) with
 | true=>rw[h1]at h;exact absurd h (show (4:Int)≠0 by decide)
 | false=>
  rw[h1]at h;cases h2:VRa c with
  | false=>rw[h2]at h;exact absurd h (show (5:Int)≠0 by decide)
  | true=>
   rw[h2]at h;cases h3:c.Verb==1 && !wDa c.Name with
   | true=>rw[h3]at h;exact absurd h (show (10:Int)≠0 by decide)
   | false=>
    rw[h3]at h;cases h4:(c.Verb==3 || (c.Verb==2 && c.Address !=([]:Str))) && !kGa c.Address with
    | true=>rw[h4]at h;exact absurd h (show (10:Int)≠0 by decide)
    | false=>
     rw[h4]at h;cases h5:decide (c.Size < 0) || decide (1000000 < c.Size) with
     | true=>rw[h5]at h;exact absurd h (show (3:Int)≠0 by decide)
     | false=>
      rw[h5]at h;cases h6:kUa c.Notify with
      | false=>rw[h6]at h;exact absurd h (show (3:Int)≠0 by decide)
      | true=>
       simp only[Bool.or_eq_false_iff,decide_eq_false_iff_not]at h1 h5;unfold kUa at h6;simp only[Bool.and_eq_true,decide_eq_true_eq]at h6;refine ⟨⟨by omega,h2,fun hv=>?_,fun hv=>?_,by omega,h6⟩,rfl⟩
       .rw[hv]at h3;simpa using h3
       cases ha:kGa c.Address with
       | true=>rfl
       | false=>
        rw[ha]at h4;rcases hv with hv | ⟨hv,hn⟩
        .rw[hv]at h4;simp at h4
        rw[hv]at h4;simp at h4;exact absurd h4 hn
def Q8a:List Str:=[[104,101,108,108,111],[109,97,105,108],[114,99,112,116],[100,97,116,97],[99,104,117,110,107],[114,101,115,101,116],[110,111,111,112],[113,117,105,116]]
def jGa:List Str:=[[110,101,118,101,114],[102,97,105,108,117,114,101],[100,101,108,97,121],[102,97,105,108,117,114,101,44,100,101,108,97,121],[115,117,99,99,101,115,115],[102,97,105,108,117,114,101,44,115,117,99,99,101,115,115],[100,101,108,97,121,44,115,117,99,99,101,115,115],[102,97,105,108,117,114,101,44,100,101,108,97,121,44,115,117,99,99,101,115,115]]
def zQb(v:Int):Str:=Q8a.getD (v - 1).toNat []
def ZMa(n:Int):Str:=jGa.getD n.toNat []
def condsV:zna × zna × zna:=((zna.mk 1 (([102,97,105,108,117,114,101]:Str))),(zna.mk 2 (([100,101,108,97,121]:Str))),(zna.mk 4 (([115,117,99,99,101,115,115]:Str))))
instance:DecidableEq (Step (Int × List Str) (List Str)):=fun a b=>match a,b with
 | .cont x,.cont y=>decidable_of_iff (x=y) (by simp)
 | .out x,.out y=>decidable_of_iff (x=y) (by simp)
 | .cont x,.out y=>isFalse (by simp)
 | .out x,.cont y=>isFalse (by simp)
def yab(n:Nat):List Str:=(if n % 2=1 then [[102,97,105,108,117,114,101]] else [])++(if n / 2 % 2=1 then [[100,101,108,97,121]] else [])++(if n / 4 % 2=1 then [[115,117,99,99,101,115,115]] else [])
theorem jVb:∀n:Fin 8,KCa (wPa (n.val:Int) condsV) 4 (0,[])=some (yab n.val):=by decide+kernel
theorem kUb:∀n:Fin 8,(if yab n.val=[] then ([110,101,118,101,114]:Str) else Lib.join (yab n.val) [44])=jGa.getD n.val []/\(yab n.val).length<=3/\(jGa.getD n.val []).length<=100:=by decide+kernel
theorem VTa{n:Int}(h:0<=n/\n<=7):vOa n=some (ZMa n):=by
 have h1:=jVb ⟨n.toNat,by omega⟩;obtain ⟨h2,h3,h4⟩:=kUb ⟨n.toNat,by omega⟩;dsimp only at h1 h2 h3 h4;rw[show ((n.toNat:Nat):Int)=n by omega]at h1;unfold vOa;have hc:q6a=some condsV:=rfl;rw[hc];simp only[Option.bind_some];rw[QKa.2 ⟨4,h1⟩];simp only[Option.bind_some];unfold ZMa;by_cases he:yab n.toNat=[]
 .rw[if_pos he]at h2;rw[he,<-h2];rfl
 rw[if_neg he]at h2;have e:(((yab n.toNat).length:Int)==0)=false:=by
  rw[beq_eq_false_iff_ne];have:=List.length_pos_iff.2 he;omega
 rw[e];simp only[cond_false];unfold vja;rw[if_pos ⟨by omega,by rw[h2];omega⟩,h2];rfl
theorem kVb{n:Int}(h:0<=n/\n<=7):(ZMa n).length<=100:=(kUb ⟨n.toNat,by omega⟩).2.2
theorem jWb:∀k:Fin 8,Q8a[k.val]? =some (zQb ((k.val:Int)+1))/\(zQb ((k.val:Int)+1)).length<=5:=by decide
theorem word_idx{v:Int}(h:1<=v/\v<=8):idx Q8a (w64 (v - 1))=some (zQb v)/\(zQb v).length<=5:=by
 have:=jWb ⟨(v - 1).toNat,by omega⟩;dsimp only at this;rw[show (((v - 1).toNat:Nat):Int)+1=v by omega]at this;rw[qsa (by omega) (by omega),show v - 1=(((v - 1).toNat:Nat):Int) by omega,v5a];exact this
theorem Wqa:yCa=some (([104,101,108,108,111]:Str),([109,97,105,108]:Str),([114,99,112,116]:Str),([100,97,116,97]:Str),([99,104,117,110,107]:Str),([114,101,115,101,116]:Str),([110,111,111,112]:Str),([113,117,105,116]:Str)):=rfl
theorem Zxa{a:Str}(h:kGa a=true):a.length<=121:=by
 unfold kGa at h;simp only[Bool.and_eq_true,decide_eq_true_eq]at h;obtain ⟨⟨⟨⟨h1,h2⟩,h3⟩,h4⟩,h5⟩:=h;unfold domP at h5;simp only[Bool.and_eq_true,decide_eq_true_eq,List.length_drop]at h5;omega
theorem jXb{v:Int}(h:1<=v/\v<=8):jmb v=some (zQb v):=by
 unfold jmb;exact (congrArg (fun o:Option Str=>o.bind fun v1=>some v1) (word_idx h).1)
theorem Wra:∀k:Fin 8,wca (k.val:Int)=some (jGa.getD k.val []):=by decide
theorem Kha{n:Int}(h:0<=n/\n<=7):wca n=some (ZMa n):=by
 have:=Wra ⟨n.toNat,by omega⟩;dsimp only at this;rw[show ((n.toNat:Nat):Int)=n by omega]at this;exact this
end Go.Proofs.YtmmjihadplknjaaGreatDoor
