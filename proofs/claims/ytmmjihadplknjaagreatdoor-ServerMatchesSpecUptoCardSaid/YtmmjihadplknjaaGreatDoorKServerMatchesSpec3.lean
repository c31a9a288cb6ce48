/- Part 3 of the proof of the law ServerMatchesSpec: what it needs. -/
import Derived.Test.YtmmjihadplknjaaGreatDoorKServerMatchesSpec2
import Derived.Lib.Atoi
import Derived.Lib.Join
import Derived.Lib.Repeat
import Derived.Lib.Split
import Derived.Lib.FieldsP
import Derived.Lib.Strings
import Derived.Shelf.Strings.SlTrimAscii
import Derived.Laws.RangeAny
import Derived.Lib.ItoaMem
set_option linter.unusedVariables false
set_option linter.unusedSimpArgs false
set_option maxRecDepth 100000
set_option maxHeartbeats 40000000
namespace Go.Proofs.YtmmjihadplknjaaGreatDoor
open Go.RowKit
noncomputable def vka(a0:List zia)(s4:Int):Option (Step Int (Unit ⊕ zta)):=
 (bif decide (s4 < (a0.length:Int)) then (idx a0 s4).bind fun v10=>(y5a v10.Name v10.Value).bind fun v12=>(z2a v12.2).bind fun v14=>(bif v14 then (zAa v12.2.Code s4).bind fun v17=>some (.out (.inr v17)) else some (.cont (w64 (s4+1)))) else some (.out (.inl (()))))
noncomputable def vva(a0:List zia):Option zta:=
 (bif decide (60 < (a0.length:Int)) then (zAa 2 ((-1))).bind fun v2=>some v2 else (iter (vka a0) 0).bind (Sum.elim (fun b5=>(kza).bind fun v19=>some v19) (fun b6=>some b6)))
def q2a(v7:(List Str) × zta)(s9:Int × (List UInt8)):Option (Step (Int × (List UInt8)) (List UInt8)):=
 (bif decide (s9.1 < (v7.1.length:Int)) then (idx v7.1 s9.1).bind fun v13=>(app 140737488355328 s9.2 v13).bind fun v15=>(app 140737488355328 v15 (([(13:UInt8),(10:UInt8)]:List UInt8))).bind fun v17=>some (.cont ((w64 (s9.1+1)),v17)) else some (.out s9.2))
noncomputable def q3a(a0:zBa)(s1:Int × (List UInt8)):Option (Step (Int × (List UInt8)) (List UInt8)):=
 (bif decide (s1.1 < (a0.Fields.length:Int)) then (idx a0.Fields s1.1).bind fun v5=>(y5a v5.Name v5.Value).bind fun v7=>(iter (q2a v7) ((0,s1.2))).bind fun b10=>some (.cont ((w64 (s1.1+1)),b10)) else some (.out s1.2))
noncomputable def wza(a0:zBa):Option (List UInt8):=
 (iter (q3a a0) ((0,([]:List UInt8)))).bind fun b2=>(app 140737488355328 b2 (([(13:UInt8),(10:UInt8)]:List UInt8))).bind fun v19=>(app 140737488355328 v19 a0.Body).bind fun v21=>some v21
def wAa(j7:Int × Int):Option (Step (Int × Int) (Unit ⊕ Int)):=
 some (.cont (j7.1,(w64 (j7.2+1))))
def vIa(a0:List UInt8)(s1:Int × Int):Option (Step (Int × Int) (Unit ⊕ Int)):=
 (bif decide (s1.2 < (a0.length:Int)) then (idx a0 s1.2).bind fun v8=>((bif ((v8.toNat:Int)==13) then (bif decide ((w64 (s1.2+1)) < (a0.length:Int)) then (idx a0 ((w64 (s1.2+1)))).bind fun v13=>some (((v13.toNat:Int)==10)) else some false) else some false):Option Bool).bind fun (j10:Bool)=>(bif j10 then (wAa (0,(w64 (s1.2+1)))) else ((bif ((v8.toNat:Int)==13) then some true else some (((v8.toNat:Int)==10))):Option Bool).bind fun (j16:Bool)=>(bif j16 then some (.out (.inr 11)) else (bif decide (998 < (w64 (s1.1+1))) then some (.out (.inr 1)) else (wAa ((w64 (s1.1+1)),s1.2))))) else some (.out (.inl (()))))
noncomputable def j9a(a0:List UInt8):Option Int:=
 (iter (vIa a0) ((0,0))).bind (Sum.elim (fun b2=>some 0) (fun b3=>some b3))
noncomputable def yha(a0:List UInt8):Option zta:=
 (j9a a0).bind fun v1=>(bif (v1==11) then (zAa 11 ((-5))).bind fun v4=>some v4 else (bif (v1==1) then (zAa 1 ((-6))).bind fun v7=>some v7 else (kza).bind fun v9=>some v9))
noncomputable def q4a(a0:zBa):Option zta:=
 (vva a0.Fields).bind fun v1=>(z2a v1).bind fun v3=>(bif v3 then some v1 else (wza a0).bind fun v6=>(bif decide (12000 < (v6.length:Int)) then (zAa 1 ((-4))).bind fun v9=>some v9 else (yha a0.Body).bind fun v11=>some v11))
def vea(a0:UInt8):Option Bool:=
 ((bif ((a0.toNat:Int)==32) then some true else some (((a0.toNat:Int)==9))):Option Bool).bind fun (j1:Bool)=>some j1
def kGa(s5:Str × Int × (List Str))(s9:Int × Int):Option (Step (Int × Int) Int):=
 ((bif decide (0 < s9.2) then some ((s9.1==0)) else some false):Option Bool).bind fun (j12:Bool)=>(bif j12 then (((bif decide (s5.2.1<=s9.2) then (idx s5.1 s9.2).bind fun v18=>(vea v18).bind fun v20=>(bif v20 then (idx s5.1 ((w64 (s9.2 - 1)))).bind fun v23=>(vea v23).bind fun v25=>some ((!v25)) else some false) else some false):Option Bool).bind fun (j16:Bool)=>(bif j16 then some s9.2 else some s9.1):Option Int).bind fun (j15:Int)=>some (.cont (j15,(w64 (s9.2 - 1)))) else some (.out s9.1))
def koa(s5:Str × Int × (List Str))(s28:Int × Int):Option (Step (Int × Int) Int):=
 ((bif decide (s28.2 < (s5.1.length:Int)) then some ((s28.1==0)) else some false):Option Bool).bind fun (j31:Bool)=>(bif j31 then (((bif decide (s5.2.1<=s28.2) then (idx s5.1 s28.2).bind fun v37=>(vea v37).bind fun v39=>(bif v39 then (idx s5.1 ((w64 (s28.2 - 1)))).bind fun v42=>(vea v42).bind fun v44=>some ((!v44)) else some false) else some false):Option Bool).bind fun (j35:Bool)=>(bif j35 then some s28.2 else some s28.1):Option Int).bind fun (j34:Int)=>some (.cont (j34,(w64 (s28.2+1)))) else some (.out s28.1))
noncomputable def vwa(s5:Str × Int × (List Str)):Option (Step (Str × Int × (List Str)) (Str × (List Str))):=
 (bif decide (78 < (s5.1.length:Int)) then (iter (kGa s5) ((0,78))).bind fun b10=>(iter (koa s5) ((b10,79))).bind fun b29=>(bif (b29==0) then some (.out ((s5.1,s5.2.2))) else (cut s5.1 0 b29).bind fun v48=>(app 8796093022208 s5.2.2 (([v48]:List Str))).bind fun v50=>(cut s5.1 b29 ((s5.1.length:Int))).bind fun v52=>some (.cont (v52,1,v50))) else some (.out ((s5.1,s5.2.2))))
noncomputable def wma(a0:Str)(a1:Str):Option (List Str):=
 (cat a0 (([58,32]:Str))).bind fun v1=>(cat v1 a1).bind fun v3=>(iter (vwa) ((v3,(w64 ((a0.length:Int)+2)),([]:List Str)))).bind fun b6=>(app 8796093022208 b6.2 (([b6.1]:List Str))).bind fun v54=>some v54
def vRa(a0:zia)(s1:Int):Option (Step Int (Unit ⊕ Int)):=
 (bif decide (s1 < (a0.Name.length:Int)) then ((idx a0.Name s1).bind fun v8=>(R_In ((v8.toNat:Int)) 33 126).bind fun v10=>(bif (!v10) then some true else (idx a0.Name s1).bind fun v13=>some (((v13.toNat:Int)==58))):Option Bool).bind fun (j7:Bool)=>(bif j7 then some (.out (.inr 10)) else some (.cont (w64 (s1+1)))) else some (.out (.inl (()))))
def vSa(a0:zia)(s20:Int):Option (Step Int (Unit ⊕ Int)):=
 (bif decide (s20 < (a0.Value.length:Int)) then ((idx a0.Value s20).bind fun v27=>(bif ((v27.toNat:Int)==0) then some true else (idx a0.Value s20).bind fun v30=>(bif ((v30.toNat:Int)==10) then some true else (idx a0.Value s20).bind fun v33=>some (((v33.toNat:Int)==13)))):Option Bool).bind fun (j26:Bool)=>(bif j26 then some (.out (.inr 11)) else some (.cont (w64 (s20+1)))) else some (.out (.inl (()))))
def vTa(v48:List Str)(s50:Int):Option (Step Int (Unit ⊕ Int)):=
 (bif decide (s50 < (v48.length:Int)) then (idx v48 s50).bind fun v56=>(bif decide (998 < (v56.length:Int)) then some (.out (.inr 1)) else some (.cont (w64 (s50+1)))) else some (.out (.inl (()))))
noncomputable def wXa(a0:zia):Option Int:=
 (iter (vRa a0) 0).bind (Sum.elim (fun b2=>(R_In ((a0.Name.length:Int)) 1 60).bind fun v16=>(bif (!v16) then some 10 else (bif decide (4000 < (a0.Value.length:Int)) then some 1 else (iter (vSa a0) 0).bind (Sum.elim (fun b21=>((bif decide (0 < (a0.Value.length:Int)) then (idx a0.Value 0).bind fun v38=>(vea v38).bind fun v40=>(bif v40 then some true else (idx a0.Value ((w64 ((a0.Value.length:Int) - 1)))).bind fun v43=>(vea v43).bind fun v45=>some v45) else some false):Option Bool).bind fun (j36:Bool)=>(bif j36 then some 11 else (wma a0.Name a0.Value).bind fun v48=>(iter (vTa v48) 0).bind (Sum.elim (fun b51=>some 0) (fun b52=>some b52)))) (fun b22=>some b22))))) (fun b3=>some b3))
def qAa(v9:List Str)(s11:Int × (List UInt8)):Option (Step (Int × (List UInt8)) (List UInt8)):=
 (bif decide (s11.1 < (v9.length:Int)) then (idx v9 s11.1).bind fun v15=>(app 140737488355328 s11.2 v15).bind fun v17=>(app 140737488355328 v17 (([(13:UInt8),(10:UInt8)]:List UInt8))).bind fun v19=>some (.cont ((w64 (s11.1+1)),v19)) else some (.out s11.2))
noncomputable def qBa(a0:zBa)(s1:Int × (List UInt8)):Option (Step (Int × (List UInt8)) (List UInt8)):=
 (bif decide (s1.1 < (a0.Fields.length:Int)) then (idx a0.Fields s1.1).bind fun v5=>(idx a0.Fields s1.1).bind fun v7=>(wma v5.Name v7.Value).bind fun v9=>(iter (qAa v9) ((0,s1.2))).bind fun b12=>some (.cont ((w64 (s1.1+1)),b12)) else some (.out s1.2))
noncomputable def vUa(a0:zBa):Option (List UInt8):=
 (iter (qBa a0) ((0,([]:List UInt8)))).bind fun b2=>(app 140737488355328 b2 (([(13:UInt8),(10:UInt8)]:List UInt8))).bind fun v21=>(app 140737488355328 v21 a0.Body).bind fun v23=>some v23
noncomputable def vJa(a0:zBa)(s4:Int):Option (Step Int (Unit ⊕ zta)):=
 (bif decide (s4 < (a0.Fields.length:Int)) then (idx a0.Fields s4).bind fun v10=>(wXa v10).bind fun v12=>(bif (v12 !=0) then (R_At v12 s4).bind fun v15=>some (.out (.inr v15)) else some (.cont (w64 (s4+1)))) else some (.out (.inl (()))))
def qCa(j30:Int × Int):Option (Step (Int × Int) (Unit ⊕ zta)):=
 some (.cont (j30.1,(w64 (j30.2+1))))
def kZa(a0:zBa)(s24:Int × Int):Option (Step (Int × Int) (Unit ⊕ zta)):=
 (bif decide (s24.2 < (a0.Body.length:Int)) then (idx a0.Body s24.2).bind fun v31=>((bif ((v31.toNat:Int)==13) then (bif decide ((w64 (s24.2+1)) < (a0.Body.length:Int)) then (idx a0.Body ((w64 (s24.2+1)))).bind fun v36=>some (((v36.toNat:Int)==10)) else some false) else some false):Option Bool).bind fun (j33:Bool)=>(bif j33 then (qCa (0,(w64 (s24.2+1)))) else ((bif ((v31.toNat:Int)==13) then some true else some (((v31.toNat:Int)==10))):Option Bool).bind fun (j39:Bool)=>(bif j39 then (R_At 11 ((-5))).bind fun v42=>some (.out (.inr v42)) else (bif decide (998 < (w64 (s24.1+1))) then (R_At 1 ((-6))).bind fun v45=>some (.out (.inr v45)) else (qCa ((w64 (s24.1+1)),s24.2))))) else some (.out (.inl (()))))
noncomputable def vVa(a0:zBa):Option zta:=
 (bif decide (60 < (a0.Fields.length:Int)) then (R_At 2 ((-1))).bind fun v2=>some v2 else (iter (vJa a0) 0).bind (Sum.elim (fun b5=>((bif decide (12000 < (a0.Body.length:Int)) then some true else (vUa a0).bind fun v19=>some (decide (12000 < (v19.length:Int)))):Option Bool).bind fun (j17:Bool)=>(bif j17 then (R_At 1 ((-4))).bind fun v22=>some v22 else (iter (kZa a0) ((0,0))).bind (Sum.elim (fun b25=>some ((zta.mk 0 0))) (fun b26=>some b26)))) (fun b6=>some b6)))
noncomputable def wYa(a0:Str):Option Bool:=
 (y5a a0 (([]:Str))).bind fun v1=>(z2a v1.2).bind fun v3=>some ((!v3))
def qja(a0:Str)(s1:Int × (List UInt8)):Option (Step (Int × (List UInt8)) (List UInt8)):=
 (bif decide (s1.1 < (a0.length:Int)) then ((idx s1.2 s1.1).bind fun v6=>(idx s1.2 s1.1).bind fun v8=>((bif decide (65<=(v8.toNat:Int)) then some (decide ((v8.toNat:Int)<=90)) else some false):Option Bool).bind fun (j10:Bool)=>(bif j10 then (idx s1.2 s1.1).bind fun v13=>(idx s1.2 s1.1).bind fun v15=>some ((List.set s1.2 (Int.toNat s1.1) (((v8+(97:UInt8)) - (65:UInt8))))) else some s1.2):Option (List UInt8)).bind fun (j5:List UInt8)=>some (.cont ((w64 (s1.1+1)),j5)) else some (.out s1.2))
noncomputable def wfa(a0:Str):Option Str:=
 (iter (qja a0) ((0,a0))).bind fun b2=>some b2
def v7a(a0:zBa)(a1:zBa)(s4:Int):Option (Step Int (Unit ⊕ Bool)):=
 (bif decide (s4 < (a0.Fields.length:Int)) then (idx a0.Fields s4).bind fun v10=>(idx a1.Fields s4).bind fun v12=>(bif (!(wqa [(v10.Name==v12.Name),(v10.Value==v12.Value)])) then some (.out (.inr false)) else some (.cont (w64 (s4+1)))) else some (.out (.inl (()))))
noncomputable def wBa(a0:zBa)(a1:zBa):Option Bool:=
 ((bif ((a0.Fields.length:Int) !=(a1.Fields.length:Int)) then some true else some ((a0.Body !=a1.Body))):Option Bool).bind fun (j1:Bool)=>(bif j1 then some false else (iter (v7a a0 a1) 0).bind (Sum.elim (fun b5=>some true) (fun b6=>some b6)))
def Zaa(a0:Str)(s1:Int × (List UInt8)):Option (Step (Int × (List UInt8)) (List UInt8)):=
 (bif decide (s1.1 < (a0.length:Int)) then (idx a0 s1.1).bind fun v5=>((R_In ((v5.toNat:Int)) 65 90).bind fun v8=>(bif v8 then some ((v5+(32:UInt8))) else some v5):Option UInt8).bind fun (j7:UInt8)=>(app 140737488355328 s1.2 (([j7]:List UInt8))).bind fun v11=>some (.cont ((w64 (s1.1+1)),v11)) else some (.out s1.2))
noncomputable def QEa(a0:Str):Option Str:=
 (iter (Zaa a0) ((0,([]:List UInt8)))).bind fun b2=>some b2
def yIa(a0:zza)(a1:zza)(s5:Int):Option (Step Int (Unit ⊕ Bool)):=
 (bif decide (s5 < (a0.Envelope.To.length:Int)) then (idx a0.Envelope.To s5).bind fun v11=>(idx a1.Envelope.To s5).bind fun v13=>(bif (!(wqa [(v11.Address==v13.Address),(v11.Notify==v13.Notify)])) then some (.out (.inr false)) else some (.cont (w64 (s5+1)))) else some (.out (.inl (()))))
noncomputable def Zba(a0:zza)(a1:zza):Option Bool:=
 ((bif (a0.Envelope.From !=a1.Envelope.From) then some true else (bif (a0.Envelope.Id !=a1.Envelope.Id) then some true else some (((a0.Envelope.To.length:Int) !=(a1.Envelope.To.length:Int))))):Option Bool).bind fun (j1:Bool)=>(bif j1 then some false else (iter (yIa a0 a1) 0).bind (Sum.elim (fun b6=>(wBa a0.Message a1.Message).bind fun v16=>some v16) (fun b7=>some b7)))
noncomputable def yaa(a0:List zza)(a1:List zza)(s2:Int):Option (Step Int (Unit ⊕ Bool)):=
 (bif decide (s2 < (a0.length:Int)) then (idx a0 s2).bind fun v8=>(idx a1 s2).bind fun v10=>(Zba v8 v10).bind fun v12=>(bif (!v12) then some (.out (.inr false)) else some (.cont (w64 (s2+1)))) else some (.out (.inl (()))))
noncomputable def y6a(a0:List zza)(a1:List zza):Option Bool:=
 (bif ((a0.length:Int) !=(a1.length:Int)) then some false else (iter (yaa a0 a1) 0).bind (Sum.elim (fun b3=>some true) (fun b4=>some b4)))
def z5a(n:Int):Option Str:=if -9223372036854775808<=n/\n<=9223372036854775807 then some (Lib.itoa n) else none
def vxa(s:Str):Option (Int × Bool):=if s.length<=18 then (match Lib.atoi s with | some n=>some (n,false) | none=>some (0,true)) else none
noncomputable def y7a(a0:zka)(a1:zka):Option Bool:=
 ((bif (a0.Code==a1.Code) then (j6a a0.Lines a1.Lines).bind fun v3=>some v3 else some false):Option Bool).bind fun (j1:Bool)=>some j1
def y8a(a0:Int):Option Str:=
 (bif decide (a0 < 10) then (cut (([48,49,50,51,52,53,54,55,56,57]:Str)) a0 ((w64 (a0+1)))).bind fun v2=>some v2 else none)
def y9a(a0:Int):Option Str:=
 (bif decide (a0 < 10) then (cut (([48,49,50,51,52,53,54,55,56,57]:Str)) a0 ((w64 (a0+1)))).bind fun v2=>some v2 else (y8a ((iQuo a0 10))).bind fun v4=>(y8a ((iRem a0 10))).bind fun v6=>(cat v4 v6).bind fun v8=>some v8)
def jaa(a0:Int):Option Str:=
 (bif decide (a0 < 10) then (cut (([48,49,50,51,52,53,54,55,56,57]:Str)) a0 ((w64 (a0+1)))).bind fun v2=>some v2 else (y9a ((iQuo a0 10))).bind fun v4=>(y9a ((iRem a0 10))).bind fun v6=>(cat v4 v6).bind fun v8=>some v8)
def jba(a0:Int):Option Str:=
 (bif decide (a0 < 10) then (cut (([48,49,50,51,52,53,54,55,56,57]:Str)) a0 ((w64 (a0+1)))).bind fun v2=>some v2 else (jaa ((iQuo a0 10))).bind fun v4=>(jaa ((iRem a0 10))).bind fun v6=>(cat v4 v6).bind fun v8=>some v8)
def jca(a0:Int):Option Str:=
 (bif decide (a0 < 10) then (cut (([48,49,50,51,52,53,54,55,56,57]:Str)) a0 ((w64 (a0+1)))).bind fun v2=>some v2 else (jba ((iQuo a0 10))).bind fun v4=>(jba ((iRem a0 10))).bind fun v6=>(cat v4 v6).bind fun v8=>some v8)
def jda(a0:Int):Option Str:=
 (bif decide (a0 < 10) then (cut (([48,49,50,51,52,53,54,55,56,57]:Str)) a0 ((w64 (a0+1)))).bind fun v2=>some v2 else (jca ((iQuo a0 10))).bind fun v4=>(jca ((iRem a0 10))).bind fun v6=>(cat v4 v6).bind fun v8=>some v8)
def jea(a0:Int):Option Str:=
 (bif decide (a0 < 10) then (cut (([48,49,50,51,52,53,54,55,56,57]:Str)) a0 ((w64 (a0+1)))).bind fun v2=>some v2 else (jda ((iQuo a0 10))).bind fun v4=>(jda ((iRem a0 10))).bind fun v6=>(cat v4 v6).bind fun v8=>some v8)
def jfa(a0:Int):Option Str:=
 (bif decide (a0 < 10) then (cut (([48,49,50,51,52,53,54,55,56,57]:Str)) a0 ((w64 (a0+1)))).bind fun v2=>some v2 else (jea ((iQuo a0 10))).bind fun v4=>(jea ((iRem a0 10))).bind fun v6=>(cat v4 v6).bind fun v8=>some v8)
def jga(a0:Int):Option Str:=
 (bif decide (a0 < 10) then (cut (([48,49,50,51,52,53,54,55,56,57]:Str)) a0 ((w64 (a0+1)))).bind fun v2=>some v2 else (jfa ((iQuo a0 10))).bind fun v4=>(jfa ((iRem a0 10))).bind fun v6=>(cat v4 v6).bind fun v8=>some v8)
def jha(a0:Int):Option Str:=
 (bif decide (a0 < 10) then (cut (([48,49,50,51,52,53,54,55,56,57]:Str)) a0 ((w64 (a0+1)))).bind fun v2=>some v2 else (jga ((iQuo a0 10))).bind fun v4=>(jga ((iRem a0 10))).bind fun v6=>(cat v4 v6).bind fun v8=>some v8)
def yia(a0:Int):Option Str:=
 (bif decide (a0 < 10) then (cut (([48,49,50,51,52,53,54,55,56,57]:Str)) a0 ((w64 (a0+1)))).bind fun v2=>some v2 else (jha ((iQuo a0 10))).bind fun v4=>(jha ((iRem a0 10))).bind fun v6=>(cat v4 v6).bind fun v8=>some v8)
def yja(a0:Int):Option Str:=
 (bif decide (a0 < 10) then (cut (([48,49,50,51,52,53,54,55,56,57]:Str)) a0 ((w64 (a0+1)))).bind fun v2=>some v2 else (yia ((iQuo a0 10))).bind fun v4=>(yia ((iRem a0 10))).bind fun v6=>(cat v4 v6).bind fun v8=>some v8)
def yJa(a0:Int):Option Str:=
 (bif decide (a0 < 10) then (cut (([48,49,50,51,52,53,54,55,56,57]:Str)) a0 ((w64 (a0+1)))).bind fun v2=>some v2 else (yja ((iQuo a0 10))).bind fun v4=>(yja ((iRem a0 10))).bind fun v6=>(cat v4 v6).bind fun v8=>some v8)
def wga(a0:Str)(s9:Int × Int):Option (Step (Int × Int) (Int ⊕ Int)):=
 (bif decide (s9.2 < (a0.length:Int)) then (idx a0 s9.2).bind fun v15=>(R_In ((v15.toNat:Int)) 48 57).bind fun v17=>(bif (!v17) then some (.out (.inr ((-1)))) else (idx a0 s9.2).bind fun v20=>some (.cont ((w64 ((w64 (10 * s9.1))+(((v20 - (48:UInt8))).toNat:Int))),(w64 (s9.2+1))))) else some (.out (.inl s9.1)))
noncomputable def KUa(a0:Str):Option Int:=
 ((R_In ((a0.length:Int)) 1 9).bind fun v2=>(bif (!v2) then some true else (bif decide (1 < (a0.length:Int)) then (idx a0 0).bind fun v6=>some (((v6.toNat:Int)==48)) else some false)):Option Bool).bind fun (j1:Bool)=>(bif j1 then some ((-1)) else (iter (wga a0) ((0,0))).bind (Sum.elim (fun b10=>some b10) (fun b11=>some b11)))
def vya(l:List Str)(s:Str):Option Str:=if l.length<=140737488355328/\(Lib.join l s).length<=140737488355328 then some (Lib.join l s) else none
def sp32(x:Nat):Bool:=decide ((x:Int)=32)
def kHa(s:Str):Option (List Str):=if s.length<=4294967296 then some ((Lib.goFieldsP sp32 (strB s)).map fun b=>b.data.toList) else none
def zYa(s t:Str):Option (Str × Bool):=some (Lib.trimPrefix s t,Lib.hasPrefix s t)
def zZa(s t:Str):Option (Str × Bool):=if s.length<=9223372036854775807 then some (Lib.trimSuffix s t,Lib.hasSuffix s t) else none
def yka(a0:zoa):Option zoa:=
 ((bif (a0.Verb==1) then some ((a0.Name,([]:Str),0,0,false)) else (bif (a0.Verb==2) then some ((([]:Str),a0.Address,a0.Size,0,false)) else (bif (a0.Verb==3) then some ((([]:Str),a0.Address,0,a0.Notify,false)) else (bif (a0.Verb==5) then some ((([]:Str),([]:Str),a0.Size,0,a0.Last)) else some ((([]:Str),([]:Str),0,0,false)))))):Option (Str × Str × Int × Int × Bool)).bind fun (j1:Str × Str × Int × Int × Bool)=>some ((zoa.mk a0.Verb j1.1 j1.2.1 j1.2.2.1 j1.2.2.2.1 j1.2.2.2.2))
noncomputable def q5a(a0:zoa):Option zta:=
 ((bif (a0.Verb==3) then some true else (bif (a0.Verb==2) then some ((a0.Address !=([]:Str))) else some false)):Option Bool).bind fun (j1:Bool)=>((bif decide (a0.Verb < 1) then some true else some (decide (8 < a0.Verb))):Option Bool).bind fun (j4:Bool)=>(bif j4 then (zAa 4 ((-2))).bind fun v7=>some v7 else (yka a0).bind fun v9=>(bif (!(wqa [(a0.Verb==v9.Verb),(a0.Name==v9.Name),(a0.Address==v9.Address),(a0.Size==v9.Size),(a0.Notify==v9.Notify),(a0.Last==v9.Last)])) then (zAa 5 ((-3))).bind fun v12=>some v12 else ((bif (a0.Verb==1) then (yQa a0.Name).bind fun v16=>some ((!v16)) else some false):Option Bool).bind fun (j14:Bool)=>(bif j14 then (zAa 10 ((-4))).bind fun v19=>some v19 else ((bif j1 then (kra a0.Address).bind fun v23=>some ((!v23)) else some false):Option Bool).bind fun (j21:Bool)=>(bif j21 then (zAa 10 ((-5))).bind fun v26=>some v26 else ((bif decide (a0.Size < 0) then some true else some (decide (1000000 < a0.Size))):Option Bool).bind fun (j28:Bool)=>(bif j28 then (zAa 3 ((-6))).bind fun v31=>some v31 else (k2a a0.Notify).bind fun v33=>(bif (!v33) then (zAa 3 ((-7))).bind fun v36=>some v36 else (kza).bind fun v38=>some v38))))))
def yKa:Option (Str × Str × Str × Str × Str × Str × Str × Str):=
 some ((([104,101,108,108,111]:Str),([109,97,105,108]:Str),([114,99,112,116]:Str),([100,97,116,97]:Str),([99,104,117,110,107]:Str),([114,101,115,101,116]:Str),([110,111,111,112]:Str),([113,117,105,116]:Str)))
def vla:Option (zma × zma × zma):=
 some (((zma.mk 1 (([102,97,105,108,117,114,101]:Str))),(zma.mk 2 (([100,101,108,97,121]:Str))),(zma.mk 4 (([115,117,99,99,101,115,115]:Str)))))
def wZa(a0:Int)(v1:zma × zma × zma)(s3:Int × (List Str)):Option (Step (Int × (List Str)) (List Str)):=
 (bif decide (s3.1 < 3) then ((idx ([v1.1,v1.2.1,v1.2.2]:List zma) s3.1).bind fun v8=>(bif ((iAnd a0 v8.n) !=0) then (app 8796093022208 s3.2 (([v8.word]:List Str))).bind fun v11=>some v11 else some s3.2):Option (List Str)).bind fun (j7:List Str)=>some (.cont ((w64 (s3.1+1)),j7)) else some (.out s3.2))
noncomputable def vWa(a0:Int):Option Str:=
 (vla).bind fun v1=>(iter (wZa a0 v1) ((0,([]:List Str)))).bind fun b4=>(bif ((b4.length:Int)==0) then some (([110,101,118,101,114]:Str)) else (vya b4 (([44]:Str))).bind fun v14=>some v14)
noncomputable def qDa(a0:Str):Option (Str × Bool):=
 (zYa a0 (([60]:Str))).bind fun v1=>(zZa v1.1 (([62]:Str))).bind fun v3=>((bif v1.2 then some v3.2 else some false):Option Bool).bind fun (j5:Bool)=>some ((v3.1,j5))
noncomputable def kUa(a0:List Str)(a1:Str):Option (Str × Bool):=
 (bif ((a0.length:Int) !=1) then some ((([]:Str),false)) else (idx a0 0).bind fun v2=>(wfa v2).bind fun v4=>(cat a1 (([61]:Str))).bind fun v6=>(zYa v4 v6).bind fun v8=>some ((v8.1,v8.2)))
noncomputable def yla(a0:Str)(a1:Int):Option (Int × Bool):=
 (vxa a0).bind fun v1=>((bif v1.2 then some true else (z5a v1.1).bind fun v5=>(bif (v5 !=a0) then some true else (bif decide (v1.1 < 0) then some true else some (decide (a1 < v1.1))))):Option Bool).bind fun (j3:Bool)=>(bif j3 then some ((0,false)) else some ((v1.1,true)))
noncomputable def q8a(a0:Str):Option (Int × Bool):=
 (bif decide (9 < (a0.length:Int)) then some ((0,false)) else (yla a0 999999999).bind fun v2=>some ((v2.1,v2.2)))
noncomputable def kba(a0:Str)(a1:Bool)(s1:Int):Option (Step Int (Unit ⊕ (Int × Bool))):=
 (bif decide (s1 < 8) then ((bif a1 then (vWa s1).bind fun v9=>some ((v9==a0)) else some false):Option Bool).bind fun (j7:Bool)=>(bif j7 then some (.out (.inr ((s1,true)))) else some (.cont (w64 (s1+1)))) else some (.out (.inl (()))))
noncomputable def yma(a0:Str)(a1:Bool):Option (Int × Bool):=
 (iter (kba a0 a1) 0).bind (Sum.elim (fun b2=>some ((0,false))) (fun b3=>some ((b3.1,b3.2))))
def vXa(a0:Int)(a1:Int)(c0_0:List Str):Option Bool:=
 ((bif decide (a0<=(c0_0.length:Int)) then some (decide ((c0_0.length:Int)<=a1)) else some false):Option Bool).bind fun (j1:Bool)=>some j1
def kca(a0:Int)(j1:Bool × Bool × Str × Str × Int × Int × Bool):Option (zoa × Bool):=
 ((bif j1.1 then some j1.2.1 else some false):Option Bool).bind fun (j2:Bool)=>some (((zoa.mk a0 j1.2.2.1 j1.2.2.2.1 j1.2.2.2.2.1 j1.2.2.2.2.2.1 j1.2.2.2.2.2.2),j2))
noncomputable def yna(a0:Int)(a1:List Str):Option (zoa × Bool):=
 (bif (a0==1) then ((bif decide (1<=(a1.length:Int)) then some (decide ((a1.length:Int)<=1)) else some false):Option Bool).bind fun (j5:Bool)=>(bif (!j5) then some (((zoa.mk a0 (([]:Str)) (([]:Str)) 0 0 false),false)) else (idx a1 0).bind fun v8=>(kca a0 (true,true,v8,([]:Str),0,0,false))) else (bif (a0==2) then ((bif decide (1<=(a1.length:Int)) then some (decide ((a1.length:Int)<=2)) else some false):Option Bool).bind fun (j11:Bool)=>(bif (!j11) then some (((zoa.mk a0 (([]:Str)) (([]:Str)) 0 0 false),false)) else (idx a1 0).bind fun v14=>(qDa v14).bind fun v16=>(bif ((a1.length:Int)==2) then (cut a1 1 ((a1.length:Int))).bind fun v19=>(kUa v19 (([115,105,122,101]:Str))).bind fun v21=>(q8a v21.1).bind fun v23=>(bif v23.2 then (kca a0 (v16.2,v21.2,([]:Str),v16.1,v23.1,0,false)) else (kca a0 (v16.2,false,([]:Str),v16.1,v23.1,0,false))) else (kca a0 (v16.2,true,([]:Str),v16.1,0,0,false)))) else (bif (a0==3) then ((bif decide (1<=(a1.length:Int)) then some (decide ((a1.length:Int)<=2)) else some false):Option Bool).bind fun (j27:Bool)=>(bif (!j27) then some (((zoa.mk a0 (([]:Str)) (([]:Str)) 0 0 false),false)) else (idx a1 0).bind fun v30=>(qDa v30).bind fun v32=>(bif ((a1.length:Int)==2) then (cut a1 1 ((a1.length:Int))).bind fun v35=>(kUa v35 (([110,111,116,105,102,121]:Str))).bind fun v37=>(yma v37.1 v37.2).bind fun v39=>(kca a0 (v32.2,v39.2,([]:Str),v32.1,0,v39.1,false)) else (kca a0 (v32.2,true,([]:Str),v32.1,0,1,false)))) else (bif (a0==5) then ((bif decide (1<=(a1.length:Int)) then some (decide ((a1.length:Int)<=2)) else some false):Option Bool).bind fun (j42:Bool)=>(bif (!j42) then some (((zoa.mk a0 (([]:Str)) (([]:Str)) 0 0 false),false)) else (idx a1 0).bind fun v45=>(q8a v45).bind fun v47=>(bif (!(((a1.length:Int)==2))) then (kca a0 (v47.2,true,([]:Str),([]:Str),v47.1,0,((a1.length:Int)==2))) else (idx a1 1).bind fun v50=>(wfa v50).bind fun v52=>(kca a0 (v47.2,(v52==([108,97,115,116]:Str)),([]:Str),([]:Str),v47.1,0,((a1.length:Int)==2))))) else (vXa 0 0 a1).bind fun v54=>some (((zoa.mk a0 (([]:Str)) (([]:Str)) 0 0 false),v54))))))
noncomputable def qba(v4:List Str)(v6:Str × Str × Str × Str × Str × Str × Str × Str)(s8:Int × Int):Option (Step (Int × Int) Int):=
 (bif decide (s8.2 < 8) then ((idx ([v6.1,v6.2.1,v6.2.2.1,v6.2.2.2.1,v6.2.2.2.2.1,v6.2.2.2.2.2.1,v6.2.2.2.2.2.2.1,v6.2.2.2.2.2.2.2]:List Str) s8.2).bind fun v13=>((bif decide (0 < (v4.length:Int)) then (idx v4 0).bind fun v17=>(wfa v17).bind fun v19=>some ((v19==v13)) else some false):Option Bool).bind fun (j15:Bool)=>(bif j15 then some ((w64 (s8.2+1))) else some s8.1):Option Int).bind fun (j12:Int)=>some (.cont (j12,(w64 (s8.2+1)))) else some (.out s8.1))
noncomputable def wCa(a0:Str):Option (zoa × zta):=
 (bif decide (4000 < (a0.length:Int)) then (zAa 1 ((-1))).bind fun v2=>some (((zoa.mk 0 (([]:Str)) (([]:Str)) 0 0 false),v2)) else (kHa a0).bind fun v4=>(yKa).bind fun v6=>(iter (qba v4 v6) ((0,0))).bind fun b9=>(bif (b9==0) then (zAa 18 ((-2))).bind fun v23=>some (((zoa.mk 0 (([]:Str)) (([]:Str)) 0 0 false),v23)) else (cut v4 1 ((v4.length:Int))).bind fun v25=>(yna b9 v25).bind fun v27=>(bif (!v27.2) then (zAa 11 ((-3))).bind fun v30=>some (((zoa.mk 0 (([]:Str)) (([]:Str)) 0 0 false),v30)) else (q5a v27.1).bind fun v32=>(z2a v32).bind fun v34=>(bif v34 then some (((zoa.mk 0 (([]:Str)) (([]:Str)) 0 0 false),v32)) else (kza).bind fun v37=>some ((v27.1,v37))))))
noncomputable def vYa(a0:zoa):Option zta:=
 (R_In a0.Verb 1 8).bind fun v1=>(bif (!v1) then (R_At 4 ((-2))).bind fun v4=>some v4 else ((bif (a0.Verb !=1) then (bif (a0.Name !=([]:Str)) then some true else (bif (a0.Verb !=2) then (bif (a0.Verb !=3) then (bif (a0.Address !=([]:Str)) then some true else (bif (a0.Verb !=5) then (bif (a0.Size !=0) then some true else (bif (a0.Notify !=0) then some true else some a0.Last)) else (bif (a0.Notify !=0) then some true else some false))) else (bif (a0.Verb !=5) then (bif (a0.Size !=0) then some true else some a0.Last) else some false)) else (bif (a0.Verb !=3) then (bif (a0.Notify !=0) then some true else (bif (a0.Verb !=5) then some a0.Last else some false)) else (bif (a0.Verb !=5) then some a0.Last else some false)))) else (bif (a0.Verb !=2) then (bif (a0.Verb !=3) then (bif (a0.Address !=([]:Str)) then some true else (bif (a0.Verb !=5) then (bif (a0.Size !=0) then some true else (bif (a0.Notify !=0) then some true else some a0.Last)) else (bif (a0.Notify !=0) then some true else some false))) else (bif (a0.Verb !=5) then (bif (a0.Size !=0) then some true else some a0.Last) else some false)) else (bif (a0.Verb !=3) then (bif (a0.Notify !=0) then some true else (bif (a0.Verb !=5) then some a0.Last else some false)) else (bif (a0.Verb !=5) then some a0.Last else some false)))):Option Bool).bind fun (j6:Bool)=>(bif j6 then (R_At 5 ((-3))).bind fun v36=>some v36 else ((bif (a0.Verb==1) then (ZBa a0.Name).bind fun v40=>some ((!v40)) else some false):Option Bool).bind fun (j38:Bool)=>(bif j38 then (R_At 10 ((-4))).bind fun v43=>some v43 else ((bif (a0.Verb==2) then (bif (a0.Address !=([]:Str)) then (qia a0.Address).bind fun v48=>some ((!v48)) else (bif (a0.Verb==3) then (qia a0.Address).bind fun v51=>some ((!v51)) else some false)) else (bif (a0.Verb==3) then (qia a0.Address).bind fun v54=>some ((!v54)) else some false)):Option Bool).bind fun (j45:Bool)=>(bif j45 then (R_At 10 ((-5))).bind fun v57=>some v57 else ((bif (a0.Verb==2) then (R_In a0.Size 0 1000000).bind fun v61=>some ((!v61)) else (bif (a0.Verb==5) then (R_In a0.Size 0 1000000).bind fun v64=>some ((!v64)) else some false)):Option Bool).bind fun (j59:Bool)=>(bif j59 then (R_At 3 ((-6))).bind fun v67=>some v67 else ((bif (a0.Verb==3) then (R_In a0.Notify 0 7).bind fun v71=>some ((!v71)) else some false):Option Bool).bind fun (j69:Bool)=>(bif j69 then (R_At 3 ((-7))).bind fun v74=>some v74 else some ((zta.mk 0 0))))))))
def kTb(a0:Int):Option Str:=
 (idx (([([104,101,108,108,111]:Str),([109,97,105,108]:Str),([114,99,112,116]:Str),([100,97,116,97]:Str),([99,104,117,110,107]:Str),([114,101,115,101,116]:Str),([110,111,111,112]:Str),([113,117,105,116]:Str)]:List Str)) ((w64 (a0 - 1)))).bind fun v1=>some v1
def yoa(a0:Int):Option Str:=
 (idx (([([110,101,118,101,114]:Str),([102,97,105,108,117,114,101]:Str),([100,101,108,97,121]:Str),([102,97,105,108,117,114,101,44,100,101,108,97,121]:Str),([115,117,99,99,101,115,115]:Str),([102,97,105,108,117,114,101,44,115,117,99,99,101,115,115]:Str),([100,101,108,97,121,44,115,117,99,99,101,115,115]:Str),([102,97,105,108,117,114,101,44,100,101,108,97,121,44,115,117,99,99,101,115,115]:Str)]:List Str)) a0).bind fun v1=>some v1
def q9a(a0:Str)(s1:Str × Int × (List Str)):Option (Step (Str × Int × (List Str)) (List Str)):=
 (bif decide (s1.2.1<=(a0.length:Int)) then (((bif decide (s1.2.1 < (a0.length:Int)) then (idx a0 s1.2.1).bind fun v8=>some (((v8.toNat:Int) !=32)) else some false):Option Bool).bind fun (j6:Bool)=>(bif j6 then (cut a0 s1.2.1 ((w64 (s1.2.1+1)))).bind fun v11=>(cat s1.1 v11).bind fun v13=>some ((v13,s1.2.2)) else ((bif (s1.1 !=([]:Str)) then (app 8796093022208 s1.2.2 (([s1.1]:List Str))).bind fun v17=>some v17 else some s1.2.2):Option (List Str)).bind fun (j15:List Str)=>some ((([]:Str),j15))):Option (Str × (List Str))).bind fun (j5:Str × (List Str))=>some (.cont (j5.1,(w64 (s1.2.1+1)),j5.2)) else some (.out s1.2.2))
noncomputable def Yza(a0:Str):Option (List Str):=
 (iter (q9a a0) ((([]:Str),0,([]:List Str)))).bind fun b2=>some b2
noncomputable def Kfa(a0:Str)(a1:Str):Option (Str × Bool):=
 (QEa a0).bind fun v1=>((bif decide ((v1.length:Int) < (a1.length:Int)) then some true else (cut v1 0 ((a1.length:Int))).bind fun v5=>some ((v5 !=a1))):Option Bool).bind fun (j3:Bool)=>(bif j3 then some ((([]:Str),false)) else (cut v1 ((a1.length:Int)) ((v1.length:Int))).bind fun v8=>some ((v8,true)))
noncomputable def qka(v4:List Str)(s6:Int × Int):Option (Step (Int × Int) Int):=
 ((bif decide (s6.1<=8) then some (decide (0 < (v4.length:Int))) else some false):Option Bool).bind fun (j9:Bool)=>(bif j9 then ((idx v4 0).bind fun v13=>(QEa v13).bind fun v15=>(kTb s6.1).bind fun v17=>(bif (v15==v17) then some s6.1 else some s6.2):Option Int).bind fun (j12:Int)=>some (.cont ((w64 (s6.1+1)),j12)) else some (.out s6.2))
noncomputable def kVa(b7:Int)(j34:Str × Str × Int)(j37:Int × Int × Bool):Option (zoa × zta):=
 (vYa ((zoa.mk b7 j34.1 j34.2.1 j37.1 j37.2.1 j37.2.2))).bind fun v38=>(bif (v38.Code !=0) then some (((zoa.mk 0 (([]:Str)) (([]:Str)) 0 0 false),v38)) else some (((zoa.mk b7 j34.1 j34.2.1 j37.1 j37.2.1 j37.2.2),v38)))
def qla(v54:Str × Bool)(s56:Bool × Int × Int):Option (Step (Bool × Int × Int) (Bool × Int)):=
 ((bif decide (s56.2.1 < 8) then some v54.2 else some false):Option Bool).bind fun (j59:Bool)=>(bif j59 then ((yoa s56.2.1).bind fun v63=>(bif (v63==v54.1) then some ((true,s56.2.1)) else some ((s56.1,s56.2.2))):Option (Bool × Int)).bind fun (j62:Bool × Int)=>some (.cont (j62.1,(w64 (s56.2.1+1)),j62.2)) else some (.out ((s56.1,s56.2.2))))
noncomputable def kda(b7:Int)(v23:zta)(v25:List Str)(j34:Str × Str × Int):Option (zoa × zta):=
 ((bif (b7==3) then some 1 else some 0):Option Int).bind fun (j35:Int)=>(bif ((v25.length:Int)==2) then ((bif (b7==2) then (idx v25 1).bind fun v44=>(Kfa v44 (([115,105,122,101,61]:Str))).bind fun v46=>(KUa v46.1).bind fun v48=>(bif v46.2 then some ((decide (0<=v48),v48,j35,false)) else some ((false,v48,j35,false))) else (bif (b7==3) then (idx v25 1).bind fun v52=>(Kfa v52 (([110,111,116,105,102,121,61]:Str))).bind fun v54=>(iter (qla v54) ((false,0,j35))).bind fun b57=>some ((b57.1,j34.2.2,b57.2,false)) else (bif (b7==5) then (idx v25 1).bind fun v67=>(QEa v67).bind fun v69=>some (((v69==([108,97,115,116]:Str)),j34.2.2,j35,true)) else some ((false,j34.2.2,j35,false))))):Option (Bool × Int × Int × Bool)).bind fun (j42:Bool × Int × Int × Bool)=>(bif (!j42.1) then some (((zoa.mk 0 (([]:Str)) (([]:Str)) 0 0 false),v23)) else (kVa b7 j34 (j42.2.1,j42.2.2.1,j42.2.2.2))) else (kVa b7 j34 (j34.2.2,j35,false)))
noncomputable def jia(a0:Str):Option (zoa × zta):=
 (bif decide (4000 < (a0.length:Int)) then (R_At 1 ((-1))).bind fun v2=>some (((zoa.mk 0 (([]:Str)) (([]:Str)) 0 0 false),v2)) else (Yza a0).bind fun v4=>(iter (qka v4) ((1,0))).bind fun b7=>(bif (b7==0) then (R_At 18 ((-2))).bind fun v21=>some (((zoa.mk 0 (([]:Str)) (([]:Str)) 0 0 false),v21)) else (R_At 11 ((-3))).bind fun v23=>(cut v4 1 ((v4.length:Int))).bind fun v25=>(idx (([1,1,1,0,1,0,0,0]:List Int)) ((w64 (b7 - 1)))).bind fun v27=>(idx (([1,2,2,0,2,0,0,0]:List Int)) ((w64 (b7 - 1)))).bind fun v29=>(R_In ((v25.length:Int)) v27 v29).bind fun v31=>(bif (!v31) then some (((zoa.mk 0 (([]:Str)) (([]:Str)) 0 0 false),v23)) else (bif (b7==1) then (idx v25 0).bind fun v73=>(kda b7 v23 v25 (v73,([]:Str),0)) else ((bif (b7==2) then some true else some ((b7==3))):Option Bool).bind fun (j75:Bool)=>(bif j75 then (idx v25 0).bind fun v78=>((bif decide ((v78.length:Int) < 2) then some true else (idx v25 0).bind fun v82=>(idx v82 0).bind fun v84=>(bif ((v84.toNat:Int) !=60) then some true else (idx v25 0).bind fun v87=>(idx v87 ((w64 ((v78.length:Int) - 1)))).bind fun v89=>some (((v89.toNat:Int) !=62)))):Option Bool).bind fun (j80:Bool)=>(bif j80 then some (((zoa.mk 0 (([]:Str)) (([]:Str)) 0 0 false),v23)) else (idx v25 0).bind fun v92=>(cut v92 1 ((w64 ((v78.length:Int) - 1)))).bind fun v94=>(kda b7 v23 v25 (([]:Str),v94,0))) else (bif (b7==5) then (idx v25 0).bind fun v97=>(KUa v97).bind fun v99=>(bif decide (v99 < 0) then some (((zoa.mk 0 (([]:Str)) (([]:Str)) 0 0 false),v23)) else (kda b7 v23 v25 (([]:Str),([]:Str),v99))) else (kda b7 v23 v25 (([]:Str),([]:Str),0))))))))
def ksa(c:UInt8):UInt8:=if c=0∨c=13 then 32 else c
def zVa(s:Str):Option Str:=if s.length<=4611686018427387904 then some (s.map ksa) else none
def wfb(t:Str):Bool:=t.all fun b=>decide (b.toNat < 128)
def ypa(s t:Str):Option Str:=if s.length<=9223372036854775807/\t.length < 4294967281/\wfb t=true then some (Lib.trimS s t) else none
def qEa(s t:Str):Option Str:=if s.length<=9223372036854775807/\t.length < 4294967281/\wfb t=true then some (Lib.trimRightS s t) else none
def qFa(l:List UInt8)(c:UInt8):Option Int:=some (Lib.indexByte l c)
def kOa(a0:List UInt8)(a1:List UInt8):Option (List UInt8):=
 (kFa a0 a1).bind fun v1=>(bif v1 then (cut a0 0 ((w64 ((a0.length:Int) - (a1.length:Int))))).bind fun v4=>some v4 else some a0)
def jja(a0:List UInt8):Option (Str × Int):=
 (qFa a0 ((10:UInt8))).bind fun v1=>(bif decide (v1 < 0) then some ((a0,(a0.length:Int))) else (cut a0 0 v1).bind fun v4=>(kOa v4 (([(13:UInt8)]:List UInt8))).bind fun v6=>some ((v6,(w64 (v1+1)))))
noncomputable def wDa(a0:Str):Option (zia × Bool):=
 (qRa a0 (([58]:Str))).bind fun v1=>(qEa v1.1 (([32,9]:Str))).bind fun v3=>((bif v1.2.2 then (wYa v3).bind fun v7=>some v7 else some false):Option Bool).bind fun (j5:Bool)=>some (((zia.mk v3 v1.2.1),j5))
noncomputable def vZa(a0:List UInt8)(s4:Int × (List zia)):Option (Step (Int × (List zia)) (Int × (List zia))):=
 (bif decide (s4.1 < (a0.length:Int)) then (cut a0 s4.1 ((a0.length:Int))).bind fun v8=>(jja v8).bind fun v10=>(bif (v10.1==([]:Str)) then some (.out (((w64 (s4.1+v10.2)),s4.2))) else ((idx v10.1 0).bind fun v14=>(qTa v14).bind fun v16=>(bif v16 then some (decide (0 < (s4.2.length:Int))) else some false):Option Bool).bind fun (j13:Bool)=>(bif j13 then (idx s4.2 ((w64 ((s4.2.length:Int) - 1)))).bind fun v20=>(idx s4.2 ((w64 ((s4.2.length:Int) - 1)))).bind fun v22=>(cat v22.Value v10.1).bind fun v24=>(idx s4.2 ((w64 ((s4.2.length:Int) - 1)))).bind fun v26=>(idx s4.2 ((w64 ((s4.2.length:Int) - 1)))).bind fun v28=>some (.cont ((w64 (s4.1+v10.2)),(List.set s4.2 (Int.toNat ((w64 ((s4.2.length:Int) - 1)))) ((zia.mk v28.Name v24))))) else (wDa v10.1).bind fun v30=>(bif (!v30.2) then some (.out ((s4.1,s4.2))) else (app 4398046511104 s4.2 (([v30.1]:List zia))).bind fun v33=>some (.cont ((w64 (s4.1+v10.2)),v33))))) else some (.out ((s4.1,s4.2))))
def v0a(b5:Int × (List zia))(s38:Int × (List zia)):Option (Step (Int × (List zia)) ((List zia) ⊕ ((List zia) × Int × zta))):=
 (bif decide (s38.1 < (b5.2.length:Int)) then (idx s38.2 s38.1).bind fun v44=>(idx s38.2 s38.1).bind fun v46=>(zVa v46.Value).bind fun v48=>(ypa v48 (([32,9]:Str))).bind fun v50=>(bif decide (4000 < (v50.length:Int)) then (zAa 1 s38.1).bind fun v53=>some (.out (.inr (([],0,v53)))) else (idx s38.2 s38.1).bind fun v55=>(idx s38.2 s38.1).bind fun v57=>some (.cont ((w64 (s38.1+1)),(List.set s38.2 (Int.toNat s38.1) ((zia.mk v57.Name v50)))))) else some (.out (.inl s38.2)))
noncomputable def ZCa(a0:List UInt8):Option ((List zia) × Int × zta):=
 (bif decide (12000 < (a0.length:Int)) then (zAa 1 ((-1))).bind fun v2=>some (([],0,v2)) else (iter (vZa a0) ((0,([]:List zia)))).bind fun b5=>(bif decide (60 < (b5.2.length:Int)) then (zAa 2 ((-2))).bind fun v36=>some (([],0,v36)) else (iter (v0a b5) ((0,b5.2))).bind (Sum.elim (fun b39=>(kza).bind fun v59=>some ((b39,b5.1,v59))) (fun b40=>some ((b40.1,b40.2.1,b40.2.2))))))
def q6a(a0:List UInt8)(s1:Int × (List UInt8)):Option (Step (Int × (List UInt8)) (List UInt8)):=
 (bif decide (s1.1 < (a0.length:Int)) then (((idx a0 s1.1).bind fun v7=>(bif ((v7.toNat:Int)==13) then (bif decide ((w64 (s1.1+1)) < (a0.length:Int)) then (idx a0 ((w64 (s1.1+1)))).bind fun v11=>some (((v11.toNat:Int)==10)) else some false) else some false):Option Bool).bind fun (j6:Bool)=>(bif j6 then (app 140737488355328 s1.2 (([(13:UInt8),(10:UInt8)]:List UInt8))).bind fun v14=>some (((w64 (s1.1+1)),v14)) else ((idx a0 s1.1).bind fun v17=>(bif ((v17.toNat:Int)==13) then some true else (idx a0 s1.1).bind fun v20=>some (((v20.toNat:Int)==10))):Option Bool).bind fun (j16:Bool)=>(bif j16 then (app 140737488355328 s1.2 (([(13:UInt8),(10:UInt8)]:List UInt8))).bind fun v23=>some ((s1.1,v23)) else (idx a0 s1.1).bind fun v25=>(app 140737488355328 s1.2 (([v25]:List UInt8))).bind fun v27=>some ((s1.1,v27)))):Option (Int × (List UInt8))).bind fun (j5:Int × (List UInt8))=>some (.cont ((w64 (j5.1+1)),j5.2)) else some (.out s1.2))
noncomputable def wEa(a0:List UInt8):Option (List UInt8):=
 (iter (q6a a0) ((0,([]:List UInt8)))).bind fun b2=>some b2
noncomputable def yqa(a0:List UInt8):Option (zBa × zta):=
 (ZCa a0).bind fun v1=>(z2a v1.2.2).bind fun v3=>(bif v3 then some (((zBa.mk ([]) ([])),v1.2.2)) else (cut a0 v1.2.1 ((a0.length:Int))).bind fun v6=>(wEa v6).bind fun v8=>(q4a ((zBa.mk v1.1 v8))).bind fun v10=>(z2a v10).bind fun v12=>(bif v12 then some (((zBa.mk ([]) ([])),v10)) else (kza).bind fun v15=>some (((zBa.mk v1.1 v8),v15))))
def yLa(a0:List UInt8)(s1:Int):Option (Step Int (Unit ⊕ (Str × Int))):=
 (bif decide (s1 < (a0.length:Int)) then (idx a0 s1).bind fun v7=>(bif ((v7.toNat:Int) !=10) then some (.cont (w64 (s1+1))) else ((bif decide (0 < s1) then (idx a0 ((w64 (s1 - 1)))).bind fun v12=>some (((v12.toNat:Int)==13)) else some false):Option Bool).bind fun (j10:Bool)=>(bif j10 then (cut a0 0 ((w64 (s1 - 1)))).bind fun v15=>some (.out (.inr ((v15,(w64 (s1+1)))))) else (cut a0 0 s1).bind fun v17=>some (.out (.inr ((v17,(w64 (s1+1)))))))) else some (.out (.inl (()))))
noncomputable def Zca(a0:List UInt8):Option (Str × Int):=
 (iter (yLa a0) 0).bind (Sum.elim (fun b2=>some ((a0,(a0.length:Int)))) (fun b3=>some ((b3.1,b3.2))))
def wna(a0:Str)(s1:Int × (List UInt8)):Option (Step (Int × (List UInt8)) (List UInt8)):=
 (bif decide (s1.1 < (a0.length:Int)) then (idx a0 s1.1).bind fun v5=>(((bif ((v5.toNat:Int)==0) then some true else some (((v5.toNat:Int)==13))):Option Bool).bind fun (j8:Bool)=>(bif j8 then some ((32:UInt8)) else some v5):Option UInt8).bind fun (j7:UInt8)=>(app 140737488355328 s1.2 (([j7]:List UInt8))).bind fun v11=>some (.cont ((w64 (s1.1+1)),v11)) else some (.out s1.2))
def yra(s13:List UInt8):Option (Step (List UInt8) (List UInt8)):=
 ((bif decide (0 < (s13.length:Int)) then (idx s13 0).bind fun v18=>(vea v18).bind fun v20=>some v20 else some false):Option Bool).bind fun (j16:Bool)=>(bif j16 then (cut s13 1 ((s13.length:Int))).bind fun v23=>some (.cont v23) else some (.out s13))
def ysa(s26:List UInt8):Option (Step (List UInt8) (List UInt8)):=
 ((bif decide (0 < (s26.length:Int)) then (idx s26 ((w64 ((s26.length:Int) - 1)))).bind fun v31=>(vea v31).bind fun v33=>some v33 else some false):Option Bool).bind fun (j29:Bool)=>(bif j29 then (cut s26 0 ((w64 ((s26.length:Int) - 1)))).bind fun v36=>some (.cont v36) else some (.out s26))
noncomputable def Kga(a0:Str):Option Str:=
 (iter (wna a0) ((0,([]:List UInt8)))).bind fun b2=>(iter (yra) b2).bind fun b14=>(iter (ysa) b14).bind fun b27=>some b27
def yRa(a0:Str)(s10:Int):Option (Step Int Int):=
 ((bif decide (0 < s10) then (idx a0 ((w64 (s10 - 1)))).bind fun v15=>(vea v15).bind fun v17=>some v17 else some false):Option Bool).bind fun (j13:Bool)=>(bif j13 then some (.cont (w64 (s10 - 1))) else some (.out s10))
noncomputable def KVa(a0:Str)(s1:Int):Option (Step Int (Unit ⊕ (Str × Str))):=
 (bif decide (s1 < (a0.length:Int)) then (idx a0 s1).bind fun v7=>(bif ((v7.toNat:Int) !=58) then some (.cont (w64 (s1+1))) else (iter (yRa a0) s1).bind fun b11=>(cut a0 0 b11).bind fun v20=>(wXa ((zia.mk v20 (([]:Str))))).bind fun v22=>(bif (v22==0) then (cut a0 0 b11).bind fun v25=>(cut a0 ((w64 (s1+1))) ((a0.length:Int))).bind fun v27=>some (.out (.inr ((v25,v27)))) else some (.out (.inr ((([]:Str),([]:Str))))))) else some (.out (.inl (()))))
noncomputable def YAa(a0:Str):Option (Str × Str):=
 (iter (KVa a0) 0).bind (Sum.elim (fun b2=>some ((([]:Str),([]:Str)))) (fun b3=>some ((b3.1,b3.2))))
noncomputable def v1a(a0:List UInt8)(s1:Int × (List zia)):Option (Step (Int × (List zia)) (Int × (List zia))):=
 (bif decide (s1.1 < (a0.length:Int)) then (cut a0 s1.1 ((a0.length:Int))).bind fun v5=>(Zca v5).bind fun v7=>(bif (v7.1==([]:Str)) then some (.out (((w64 (s1.1+v7.2)),s1.2))) else ((idx v7.1 0).bind fun v11=>(vea v11).bind fun v13=>(bif v13 then some (((w64 ((s1.2.length:Int) - 1)),decide (0<=(w64 ((s1.2.length:Int) - 1))))) else some (((w64 ((s1.2.length:Int) - 1)),false))):Option (Int × Bool)).bind fun (j10:Int × Bool)=>(bif j10.2 then (idx s1.2 j10.1).bind fun v17=>(idx s1.2 j10.1).bind fun v19=>(cat v19.Value v7.1).bind fun v21=>(idx s1.2 j10.1).bind fun v23=>(idx s1.2 j10.1).bind fun v25=>some (.cont ((w64 (s1.1+v7.2)),(List.set s1.2 (Int.toNat j10.1) ((zia.mk v25.Name v21))))) else (YAa v7.1).bind fun v27=>(bif (v27.1==([]:Str)) then some (.out ((s1.1,s1.2))) else (app 4398046511104 s1.2 (([(zia.mk v27.1 v27.2)]:List zia))).bind fun v30=>some (.cont ((w64 (s1.1+v7.2)),v30))))) else some (.out ((s1.1,s1.2))))
noncomputable def v2a(s33:Int × (List zia)):Option (Step (Int × (List zia)) (List zia)):=
 (bif decide (s33.1 < (s33.2.length:Int)) then (idx s33.2 s33.1).bind fun v37=>(idx s33.2 s33.1).bind fun v39=>(Kga v39.Value).bind fun v41=>(idx s33.2 s33.1).bind fun v43=>(idx s33.2 s33.1).bind fun v45=>some (.cont ((w64 (s33.1+1)),(List.set s33.2 (Int.toNat s33.1) ((zia.mk v45.Name v41))))) else some (.out s33.2))
def vaa(a0:List UInt8)(s47:Int × (List UInt8)):Option (Step (Int × (List UInt8)) (List UInt8)):=
 (bif decide (s47.1 < (a0.length:Int)) then (((idx a0 s47.1).bind fun v53=>(bif ((v53.toNat:Int)==13) then some true else (idx a0 s47.1).bind fun v56=>some (((v56.toNat:Int)==10))):Option Bool).bind fun (j52:Bool)=>(bif j52 then (app 140737488355328 s47.2 (([(13:UInt8),(10:UInt8)]:List UInt8))).bind fun v59=>(((idx a0 s47.1).bind fun v63=>(bif ((v63.toNat:Int)==13) then (bif decide ((w64 (s47.1+1)) < (a0.length:Int)) then (idx a0 ((w64 (s47.1+1)))).bind fun v67=>some (((v67.toNat:Int)==10)) else some false) else some false):Option Bool).bind fun (j62:Bool)=>(bif j62 then some ((w64 (s47.1+1))) else some s47.1):Option Int).bind fun (j61:Int)=>some ((j61,v59)) else (idx a0 s47.1).bind fun v70=>(app 140737488355328 s47.2 (([v70]:List UInt8))).bind fun v72=>some ((s47.1,v72))):Option (Int × (List UInt8))).bind fun (j51:Int × (List UInt8))=>some (.cont ((w64 (j51.1+1)),j51.2)) else some (.out s47.2))
noncomputable def jka(a0:List UInt8):Option (zBa × Bool):=
 (iter (v1a a0) ((0,([]:List zia)))).bind fun b2=>(bif decide (60 < (b2.2.length:Int)) then some (((zBa.mk ([]) ([])),false)) else (iter (v2a) ((0,b2.2))).bind fun b34=>(iter (vaa a0) ((b2.1,([]:List UInt8)))).bind fun b48=>(vVa ((zBa.mk b34 b48))).bind fun v74=>(bif (v74.Code !=0) then some (((zBa.mk ([]) ([])),false)) else some (((zBa.mk b34 b48),true))))
noncomputable def k0a(a0:Str)(a1:Int)(a2:Int):Option zta:=
 ((yQa a0).bind fun v2=>(bif (!v2) then some true else some (decide (40 < (a0.length:Int)))):Option Bool).bind fun (j1:Bool)=>(bif j1 then (zAa 10 ((-20))).bind fun v6=>some v6 else ((bif decide (a1 < 1) then some true else some (decide (12000 < a1))):Option Bool).bind fun (j8:Bool)=>(bif j8 then (zAa 3 ((-21))).bind fun v11=>some v11 else ((bif decide (a2 < 1) then some true else some (decide (60 < a2))):Option Bool).bind fun (j13:Bool)=>(bif j13 then (zAa 3 ((-22))).bind fun v16=>some v16 else (kza).bind fun v18=>some v18)))
noncomputable def ySa(a0:Str)(a1:Int)(a2:Int):Option (zha × zka × zta):=
 (k0a a0 a1 a2).bind fun v1=>(z2a v1).bind fun v3=>(bif v3 then some (((zha.mk (([]:Str)) 0 0 0 false false (([]:Str)) ([]) ([]) ([]) 0 0 false 0 false false 0),(zka.mk 0 ([])),v1)) else (kza).bind fun v6=>some (((zha.mk a0 a1 a2 0 false false (([]:Str)) ([]) ([]) ([]) 0 0 false 0 false false 0),(zka.mk 220 (([a0]:List Str))),v6)))
def kWa(a0:Int)(a1:Int)(a2:Int):Option Bool:=
 ((bif decide (a1<=a0) then some (decide (a0<=a2)) else some false):Option Bool).bind fun (j1:Bool)=>some j1
def v3a(a0:List UInt8)(a1:List UInt8):Option Bool:=
 (Zza a0 a1).bind fun v1=>some ((v1 !=(-1)))
def yta(a0:zha):Option Bool:=
 ((bif (a0.Left==0) then (bif (!a0.Last) then some ((!a0.Ignore)) else some false) else some false):Option Bool).bind fun (j1:Bool)=>(bif (a0.Phase==0) then ((bif decide ((a0.Buffer.length:Int) < 4002) then (v3a a0.Buffer (([(13:UInt8),(10:UInt8)]:List UInt8))).bind fun v7=>(bif (!v7) then (bif (a0.Dots==0) then some j1 else some false) else some false) else some false):Option Bool).bind fun (j5:Bool)=>some j5 else (bif (a0.Phase==1) then ((bif decide (0 < (a0.To.length:Int)) then (bif (!a0.Chunked) then (bif ((a0.Buffer.length:Int)==0) then (kWa a0.Dots 0 4).bind fun v16=>(bif v16 then some j1 else some false) else some false) else some false) else some false):Option Bool).bind fun (j12:Bool)=>some j12 else (bif (a0.Phase==2) then ((bif (a0.Ignore==((a0.To.length:Int)==0)) then (bif (a0.Ignore==(!a0.Chunked)) then (bif ((a0.Buffer.length:Int)==0) then (bif (a0.Dots==0) then (kWa a0.Left 1 1000000).bind fun v25=>some v25 else some false) else some false) else some false) else some false):Option Bool).bind fun (j20:Bool)=>some j20 else (bif (a0.Phase==3) then ((bif (!a0.Mailing) then (bif ((a0.Buffer.length:Int)==0) then (bif (a0.Dots==0) then some j1 else some false) else some false) else some false):Option Bool).bind fun (j28:Bool)=>some j28 else some false))))
noncomputable def wFa(a0:zha):Option Bool:=
 ((bif (a0.From !=([]:Str)) then (kra a0.From).bind fun v3=>(bif (!v3) then some true else (bif decide (a0.Many < (a0.To.length:Int)) then some true else (kCa a0.To).bind fun v7=>(z2a v7).bind fun v9=>some v9)) else (bif decide (a0.Many < (a0.To.length:Int)) then some true else (kCa a0.To).bind fun v12=>(z2a v12).bind fun v14=>some v14)):Option Bool).bind fun (j1:Bool)=>(bif j1 then some false else ((bif (!a0.Greeted) then (bif a0.Mailing then some true else (bif (!a0.Mailing) then (bif (a0.From !=([]:Str)) then some true else (bif decide (0 < (a0.To.length:Int)) then some true else (bif a0.Chunked then some (((a0.To.length:Int)==0)) else some false))) else (bif a0.Chunked then some (((a0.To.length:Int)==0)) else some false))) else (bif (!a0.Mailing) then (bif (a0.From !=([]:Str)) then some true else (bif decide (0 < (a0.To.length:Int)) then some true else (bif a0.Chunked then some (((a0.To.length:Int)==0)) else some false))) else (bif a0.Chunked then some (((a0.To.length:Int)==0)) else some false))):Option Bool).bind fun (j17:Bool)=>(bif j17 then some false else ((bif decide (a0.Size < (a0.Data.length:Int)) then some true else (kWa a0.Lost 0 1099511627776).bind fun v33=>(bif (!v33) then some true else (kWa a0.Count 0 1000000).bind fun v36=>some ((!v36)))):Option Bool).bind fun (j31:Bool)=>(bif j31 then some false else ((bif decide (0 < (a0.Data.length:Int)) then (bif (!a0.Chunked) then some ((a0.Phase !=1)) else some false) else (bif decide (0 < a0.Lost) then (bif (!a0.Chunked) then some ((a0.Phase !=1)) else some false) else some false)):Option Bool).bind fun (j39:Bool)=>(bif j39 then some false else (yta a0).bind fun v45=>some v45))))
noncomputable def zsa(a0:List zca):Option (List zca):=
 (nilE a0.isEmpty (some ([])) ((app 5864062014805 ([]:List zca) a0).bind fun v2=>some v2))
noncomputable def kxa(a0:List UInt8):Option (List UInt8):=
 (nilE a0.isEmpty (some ([])) ((app 140737488355328 ([]:List UInt8) a0).bind fun v2=>some v2))
def qGa(a0:List UInt8)(a1:List UInt8):Option ((List UInt8) × Bool):=
 (kFa a0 a1).bind fun v1=>(bif (!v1) then some ((a0,false)) else (cut a0 0 ((w64 ((a0.length:Int) - (a1.length:Int))))).bind fun v4=>some ((v4,true)))
def zra(a0:zea)(a1:Int)(a2:List Str):Option zea:=
 (app 4398046511104 a0.replies (([(zka.mk a1 a2)]:List zka))).bind fun v1=>some ((zea.mk a0.Server v1 a0.mails))
def zTa(a0:zea):Option zea:=
 some ((zea.mk ((zha.mk a0.Server.Name a0.Server.Size a0.Server.Many a0.Server.Phase a0.Server.Greeted false (([]:Str)) ([]) a0.Server.Buffer (([]:List UInt8)) 0 a0.Server.Dots false a0.Server.Left a0.Server.Last a0.Server.Ignore a0.Server.Count)) a0.replies a0.mails))
def kQa(a0:zea):Option zea:=
 (zTa a0).bind fun v1=>some ((zea.mk ((zha.mk v1.Server.Name v1.Server.Size v1.Server.Many 3 v1.Server.Greeted v1.Server.Mailing v1.Server.From v1.Server.To (([]:List UInt8)) v1.Server.Data v1.Server.Lost v1.Server.Dots v1.Server.Chunked v1.Server.Left v1.Server.Last v1.Server.Ignore v1.Server.Count)) v1.replies v1.mails))
noncomputable def kla(a0:zea)(a1:zoa):Option zea:=
 (zsa a0.Server.To).bind fun v1=>(app 5864062014805 v1 (([(zca.mk a1.Address a1.Notify)]:List zca))).bind fun v3=>(vQa v3).bind fun v5=>((bif (!a0.Server.Mailing) then some true else some a0.Server.Chunked):Option Bool).bind fun (j7:Bool)=>(bif j7 then (zra a0 503 (([([111,114,100,101,114]:Str)]:List Str))).bind fun v10=>some v10 else (bif decide (a0.Server.Many < (v5.1.length:Int)) then (zra a0 452 (([([109,97,110,121]:Str)]:List Str))).bind fun v13=>some v13 else (zra ((zea.mk ((zha.mk a0.Server.Name a0.Server.Size a0.Server.Many a0.Server.Phase a0.Server.Greeted a0.Server.Mailing a0.Server.From v5.1 a0.Server.Buffer a0.Server.Data a0.Server.Lost a0.Server.Dots a0.Server.Chunked a0.Server.Left a0.Server.Last a0.Server.Ignore a0.Server.Count)) a0.replies a0.mails)) 250 (([([111,107]:Str)]:List Str))).bind fun v15=>some v15))
noncomputable def z0a(a0:zea):Option zea:=
 (yqa a0.Server.Data).bind fun v1=>((bif decide (0 < a0.Server.Lost) then (zra a0 552 (([([108,97,114,103,101]:Str)]:List Str))).bind fun v5=>some v5 else ((z2a v1.2).bind fun v8=>(bif v8 then some true else some ((a0.Server.Count==1000000))):Option Bool).bind fun (j7:Bool)=>(bif j7 then (zra a0 554 (([([114,101,102,117,115,101,100]:Str)]:List Str))).bind fun v12=>some v12 else (cat a0.Server.Name (([45]:Str))).bind fun v14=>(z5a ((w64 (a0.Server.Count+1)))).bind fun v16=>(cat v14 v16).bind fun v18=>(zsa a0.Server.To).bind fun v20=>(app 1353245080339 a0.mails (([(zza.mk ((zKa.mk a0.Server.From v20 v18)) v1.1)]:List zza))).bind fun v22=>(zra ((zea.mk ((zha.mk a0.Server.Name a0.Server.Size a0.Server.Many a0.Server.Phase a0.Server.Greeted a0.Server.Mailing a0.Server.From a0.Server.To a0.Server.Buffer a0.Server.Data a0.Server.Lost a0.Server.Dots a0.Server.Chunked a0.Server.Left a0.Server.Last a0.Server.Ignore ((w64 (a0.Server.Count+1))))) a0.replies v22)) 250 (([v18]:List Str))).bind fun v24=>some v24)):Option zea).bind fun (j3:zea)=>(zTa j3).bind fun v26=>some v26
noncomputable def z9a(a0:zea):Option zea:=
 (bif a0.Server.Ignore then (zra ((zea.mk ((zha.mk a0.Server.Name a0.Server.Size a0.Server.Many 0 a0.Server.Greeted a0.Server.Mailing a0.Server.From a0.Server.To a0.Server.Buffer a0.Server.Data a0.Server.Lost a0.Server.Dots a0.Server.Chunked a0.Server.Left false false a0.Server.Count)) a0.replies a0.mails)) 503 (([([111,114,100,101,114]:Str)]:List Str))).bind fun v2=>some v2 else (bif a0.Server.Last then (z0a ((zea.mk ((zha.mk a0.Server.Name a0.Server.Size a0.Server.Many 0 a0.Server.Greeted a0.Server.Mailing a0.Server.From a0.Server.To a0.Server.Buffer a0.Server.Data a0.Server.Lost a0.Server.Dots a0.Server.Chunked a0.Server.Left false false a0.Server.Count)) a0.replies a0.mails))).bind fun v5=>some v5 else (zra ((zea.mk ((zha.mk a0.Server.Name a0.Server.Size a0.Server.Many 0 a0.Server.Greeted a0.Server.Mailing a0.Server.From a0.Server.To a0.Server.Buffer a0.Server.Data a0.Server.Lost a0.Server.Dots a0.Server.Chunked a0.Server.Left false false a0.Server.Count)) a0.replies a0.mails)) 250 (([([111,107]:Str)]:List Str))).bind fun v7=>some v7))
noncomputable def kya(a0:zea)(a1:zoa):Option zea:=
 (bif (a1.Verb==1) then (zTa a0).bind fun v2=>(z5a v2.Server.Size).bind fun v4=>(cat (([115,105,122,101,32]:Str)) v4).bind fun v6=>(z5a v2.Server.Many).bind fun v8=>(cat (([114,101,99,105,112,105,101,110,116,115,32]:Str)) v8).bind fun v10=>(zra ((zea.mk ((zha.mk v2.Server.Name v2.Server.Size v2.Server.Many v2.Server.Phase true v2.Server.Mailing v2.Server.From v2.Server.To v2.Server.Buffer v2.Server.Data v2.Server.Lost v2.Server.Dots v2.Server.Chunked v2.Server.Left v2.Server.Last v2.Server.Ignore v2.Server.Count)) v2.replies v2.mails)) 250 (([v2.Server.Name,v6,v10]:List Str))).bind fun v12=>some v12 else (bif (a1.Verb==2) then ((bif (!a0.Server.Greeted) then some true else some a0.Server.Mailing):Option Bool).bind fun (j15:Bool)=>(bif j15 then (zra a0 503 (([([111,114,100,101,114]:Str)]:List Str))).bind fun v18=>some v18 else (bif decide (a0.Server.Size < a1.Size) then (zra a0 552 (([([108,97,114,103,101]:Str)]:List Str))).bind fun v21=>some v21 else (zra ((zea.mk ((zha.mk a0.Server.Name a0.Server.Size a0.Server.Many a0.Server.Phase a0.Server.Greeted true a1.Address a0.Server.To a0.Server.Buffer a0.Server.Data a0.Server.Lost a0.Server.Dots a0.Server.Chunked a0.Server.Left a0.Server.Last a0.Server.Ignore a0.Server.Count)) a0.replies a0.mails)) 250 (([([111,107]:Str)]:List Str))).bind fun v23=>some v23)) else (bif (a1.Verb==3) then (kla a0 a1).bind fun v26=>some v26 else (bif (a1.Verb==4) then ((bif ((a0.Server.To.length:Int)==0) then some true else some a0.Server.Chunked):Option Bool).bind fun (j29:Bool)=>(bif j29 then (zra a0 503 (([([111,114,100,101,114]:Str)]:List Str))).bind fun v32=>some v32 else (zra ((zea.mk ((zha.mk a0.Server.Name a0.Server.Size a0.Server.Many 1 a0.Server.Greeted a0.Server.Mailing a0.Server.From a0.Server.To a0.Server.Buffer a0.Server.Data a0.Server.Lost a0.Server.Dots a0.Server.Chunked a0.Server.Left a0.Server.Last a0.Server.Ignore a0.Server.Count)) a0.replies a0.mails)) 354 (([([103,111,32,111,110]:Str)]:List Str))).bind fun v34=>some v34) else (bif (a1.Verb==5) then (bif (a1.Size==0) then (z9a ((zea.mk ((zha.mk a0.Server.Name a0.Server.Size a0.Server.Many 2 a0.Server.Greeted a0.Server.Mailing a0.Server.From a0.Server.To a0.Server.Buffer a0.Server.Data a0.Server.Lost a0.Server.Dots ((!(((a0.Server.To.length:Int)==0)))) a1.Size a1.Last (((a0.Server.To.length:Int)==0)) a0.Server.Count)) a0.replies a0.mails))).bind fun v38=>some v38 else some ((zea.mk ((zha.mk a0.Server.Name a0.Server.Size a0.Server.Many 2 a0.Server.Greeted a0.Server.Mailing a0.Server.From a0.Server.To a0.Server.Buffer a0.Server.Data a0.Server.Lost a0.Server.Dots ((!(((a0.Server.To.length:Int)==0)))) a1.Size a1.Last (((a0.Server.To.length:Int)==0)) a0.Server.Count)) a0.replies a0.mails))) else (bif (a1.Verb==6) then (zTa a0).bind fun v41=>(zra v41 250 (([([111,107]:Str)]:List Str))).bind fun v43=>some v43 else (bif (a1.Verb==7) then (zra a0 250 (([([111,107]:Str)]:List Str))).bind fun v46=>some v46 else (bif (a1.Verb==8) then (zra a0 221 (([([98,121,101]:Str)]:List Str))).bind fun v49=>(kQa v49).bind fun v51=>some v51 else some a0))))))))
noncomputable def k3a(a0:zea)(a1:UInt8):Option zea:=
 (app 140737488355328 a0.Server.Buffer (([a1]:List UInt8))).bind fun v1=>(qGa v1 (([(13:UInt8),(10:UInt8)]:List UInt8))).bind fun v3=>(bif (!v3.2) then ((bif ((v1.length:Int)==4002) then (zra ((zea.mk ((zha.mk a0.Server.Name a0.Server.Size a0.Server.Many a0.Server.Phase a0.Server.Greeted a0.Server.Mailing a0.Server.From a0.Server.To v1 a0.Server.Data a0.Server.Lost a0.Server.Dots a0.Server.Chunked a0.Server.Left a0.Server.Last a0.Server.Ignore a0.Server.Count)) a0.replies a0.mails)) 500 (([([117,110,107,110,111,119,110]:Str)]:List Str))).bind fun v8=>(kQa v8).bind fun v10=>some v10 else some ((zea.mk ((zha.mk a0.Server.Name a0.Server.Size a0.Server.Many a0.Server.Phase a0.Server.Greeted a0.Server.Mailing a0.Server.From a0.Server.To v1 a0.Server.Data a0.Server.Lost a0.Server.Dots a0.Server.Chunked a0.Server.Left a0.Server.Last a0.Server.Ignore a0.Server.Count)) a0.replies a0.mails))):Option zea).bind fun (j6:zea)=>some j6 else (wCa v3.1).bind fun v12=>(bif (v12.2.Code==0) then (kya ((zea.mk ((zha.mk a0.Server.Name a0.Server.Size a0.Server.Many a0.Server.Phase a0.Server.Greeted a0.Server.Mailing a0.Server.From a0.Server.To (([]:List UInt8)) a0.Server.Data a0.Server.Lost a0.Server.Dots a0.Server.Chunked a0.Server.Left a0.Server.Last a0.Server.Ignore a0.Server.Count)) a0.replies a0.mails)) v12.1).bind fun v15=>some v15 else (bif (v12.2.Code==18) then (zra ((zea.mk ((zha.mk a0.Server.Name a0.Server.Size a0.Server.Many a0.Server.Phase a0.Server.Greeted a0.Server.Mailing a0.Server.From a0.Server.To (([]:List UInt8)) a0.Server.Data a0.Server.Lost a0.Server.Dots a0.Server.Chunked a0.Server.Left a0.Server.Last a0.Server.Ignore a0.Server.Count)) a0.replies a0.mails)) 500 (([([117,110,107,110,111,119,110]:Str)]:List Str))).bind fun v18=>some v18 else (zra ((zea.mk ((zha.mk a0.Server.Name a0.Server.Size a0.Server.Many a0.Server.Phase a0.Server.Greeted a0.Server.Mailing a0.Server.From a0.Server.To (([]:List UInt8)) a0.Server.Data a0.Server.Lost a0.Server.Dots a0.Server.Chunked a0.Server.Left a0.Server.Last a0.Server.Ignore a0.Server.Count)) a0.replies a0.mails)) 501 (([([115,121,110,116,97,120]:Str)]:List Str))).bind fun v20=>some v20)))
def z6a(a0:zea)(a1:UInt8):Option zea:=
 (bif decide ((a0.Server.Data.length:Int) < a0.Server.Size) then (app 140737488355328 a0.Server.Data (([a1]:List UInt8))).bind fun v2=>some ((zea.mk ((zha.mk a0.Server.Name a0.Server.Size a0.Server.Many a0.Server.Phase a0.Server.Greeted a0.Server.Mailing a0.Server.From a0.Server.To a0.Server.Buffer v2 a0.Server.Lost a0.Server.Dots a0.Server.Chunked a0.Server.Left a0.Server.Last a0.Server.Ignore a0.Server.Count)) a0.replies a0.mails)) else some ((zea.mk ((zha.mk a0.Server.Name a0.Server.Size a0.Server.Many a0.Server.Phase a0.Server.Greeted a0.Server.Mailing a0.Server.From a0.Server.To a0.Server.Buffer a0.Server.Data ((min ((w64 (a0.Server.Lost+1))) 1099511627776)) a0.Server.Dots a0.Server.Chunked a0.Server.Left a0.Server.Last a0.Server.Ignore a0.Server.Count)) a0.replies a0.mails)))
def kaa(a1:UInt8)(j1:zea):Option zea:=
 (z6a j1 a1).bind fun v2=>(bif ((a1.toNat:Int)==13) then some ((zea.mk ((zha.mk v2.Server.Name v2.Server.Size v2.Server.Many v2.Server.Phase v2.Server.Greeted v2.Server.Mailing v2.Server.From v2.Server.To v2.Server.Buffer v2.Server.Data v2.Server.Lost 4 v2.Server.Chunked v2.Server.Left v2.Server.Last v2.Server.Ignore v2.Server.Count)) v2.replies v2.mails)) else ((bif ((a1.toNat:Int)==10) then some ((v2.Server.Dots==4)) else some false):Option Bool).bind fun (j5:Bool)=>(bif j5 then some ((zea.mk ((zha.mk v2.Server.Name v2.Server.Size v2.Server.Many v2.Server.Phase v2.Server.Greeted v2.Server.Mailing v2.Server.From v2.Server.To v2.Server.Buffer v2.Server.Data v2.Server.Lost 0 v2.Server.Chunked v2.Server.Left v2.Server.Last v2.Server.Ignore v2.Server.Count)) v2.replies v2.mails)) else some ((zea.mk ((zha.mk v2.Server.Name v2.Server.Size v2.Server.Many v2.Server.Phase v2.Server.Greeted v2.Server.Mailing v2.Server.From v2.Server.To v2.Server.Buffer v2.Server.Data v2.Server.Lost 3 v2.Server.Chunked v2.Server.Left v2.Server.Last v2.Server.Ignore v2.Server.Count)) v2.replies v2.mails))))
noncomputable def k4a(a0:zea)(a1:UInt8):Option zea:=
 ((bif (a0.Server.Dots==0) then some (((a1.toNat:Int)==46)) else some false):Option Bool).bind fun (j8:Bool)=>(bif j8 then some ((zea.mk ((zha.mk a0.Server.Name a0.Server.Size a0.Server.Many a0.Server.Phase a0.Server.Greeted a0.Server.Mailing a0.Server.From a0.Server.To a0.Server.Buffer a0.Server.Data a0.Server.Lost 1 a0.Server.Chunked a0.Server.Left a0.Server.Last a0.Server.Ignore a0.Server.Count)) a0.replies a0.mails)) else ((bif (a0.Server.Dots==1) then some (((a1.toNat:Int)==13)) else some false):Option Bool).bind fun (j11:Bool)=>(bif j11 then some ((zea.mk ((zha.mk a0.Server.Name a0.Server.Size a0.Server.Many a0.Server.Phase a0.Server.Greeted a0.Server.Mailing a0.Server.From a0.Server.To a0.Server.Buffer a0.Server.Data a0.Server.Lost 2 a0.Server.Chunked a0.Server.Left a0.Server.Last a0.Server.Ignore a0.Server.Count)) a0.replies a0.mails)) else ((bif (a0.Server.Dots==2) then some (((a1.toNat:Int)==10)) else some false):Option Bool).bind fun (j14:Bool)=>(bif j14 then (z0a ((zea.mk ((zha.mk a0.Server.Name a0.Server.Size a0.Server.Many 0 a0.Server.Greeted a0.Server.Mailing a0.Server.From a0.Server.To a0.Server.Buffer a0.Server.Data a0.Server.Lost 0 a0.Server.Chunked a0.Server.Left a0.Server.Last a0.Server.Ignore a0.Server.Count)) a0.replies a0.mails))).bind fun v17=>some v17 else (bif (a0.Server.Dots==2) then (z6a a0 ((13:UInt8))).bind fun v20=>(kaa a1 v20) else (kaa a1 a0)))))
noncomputable def qma(a1:List UInt8)(s20:Int × zea):Option (Step (Int × zea) zea):=
 (bif decide (s20.1 < (a1.length:Int)) then ((idx a1 s20.1).bind fun v25=>(bif (s20.2.Server.Phase==0) then (k3a s20.2 v25).bind fun v28=>some v28 else (bif (s20.2.Server.Phase==1) then (k4a s20.2 v25).bind fun v31=>some v31 else (bif (s20.2.Server.Phase==2) then ((bif (!s20.2.Server.Ignore) then (z6a s20.2 v25).bind fun v36=>some v36 else some s20.2):Option zea).bind fun (j34:zea)=>(bif ((w64 (j34.Server.Left - 1))==0) then (z9a ((zea.mk ((zha.mk j34.Server.Name j34.Server.Size j34.Server.Many j34.Server.Phase j34.Server.Greeted j34.Server.Mailing j34.Server.From j34.Server.To j34.Server.Buffer j34.Server.Data j34.Server.Lost j34.Server.Dots j34.Server.Chunked ((w64 (j34.Server.Left - 1))) j34.Server.Last j34.Server.Ignore j34.Server.Count)) j34.replies j34.mails))).bind fun v39=>some v39 else some ((zea.mk ((zha.mk j34.Server.Name j34.Server.Size j34.Server.Many j34.Server.Phase j34.Server.Greeted j34.Server.Mailing j34.Server.From j34.Server.To j34.Server.Buffer j34.Server.Data j34.Server.Lost j34.Server.Dots j34.Server.Chunked ((w64 (j34.Server.Left - 1))) j34.Server.Last j34.Server.Ignore j34.Server.Count)) j34.replies j34.mails))) else some s20.2))):Option zea).bind fun (j24:zea)=>some (.cont ((w64 (s20.1+1)),j24)) else some (.out s20.2))
noncomputable def w0a(a0:zha)(a1:List UInt8):Option (zha × (List zka) × (List zza) × zta):=
 (k0a a0.Name a0.Size a0.Many).bind fun v1=>(z2a v1).bind fun v3=>(bif v3 then some (((zha.mk (([]:Str)) 0 0 0 false false (([]:Str)) ([]) ([]) ([]) 0 0 false 0 false false 0),[],[],v1)) else (wFa a0).bind fun v6=>(bif (!v6) then (zAa 5 ((-23))).bind fun v9=>some (((zha.mk (([]:Str)) 0 0 0 false false (([]:Str)) ([]) ([]) ([]) 0 0 false 0 false false 0),[],[],v9)) else (bif decide (40000 < (a1.length:Int)) then (zAa 1 ((-1))).bind fun v12=>some (((zha.mk (([]:Str)) 0 0 0 false false (([]:Str)) ([]) ([]) ([]) 0 0 false 0 false false 0),[],[],v12)) else (zsa a0.To).bind fun v14=>(kxa a0.Buffer).bind fun v16=>(kxa a0.Data).bind fun v18=>(iter (qma a1) ((0,(zea.mk ((zha.mk a0.Name a0.Size a0.Many a0.Phase a0.Greeted a0.Mailing a0.From v14 v16 v18 a0.Lost a0.Dots a0.Chunked a0.Left a0.Last a0.Ignore a0.Count)) (([]:List zka)) (([]:List zza)))))).bind fun b21=>(kza).bind fun v41=>some ((b21.Server,b21.replies,b21.mails,v41)))))
def vKa(a0:zda)(a1:Int)(a2:Str):Option zda:=
 (app 4398046511104 a0.Replies (([(zka.mk a1 (([a2]:List Str)))]:List zka))).bind fun v1=>some ((zda.mk a0.S v1 a0.Mails))
def qHa(a0:zda):Option zda:=
 some ((zda.mk ((zha.mk a0.S.Name a0.S.Size a0.S.Many a0.S.Phase a0.S.Greeted false (([]:Str)) ([]) a0.S.Buffer (([]:List UInt8)) 0 a0.S.Dots false a0.S.Left a0.S.Last a0.S.Ignore a0.S.Count)) a0.Replies a0.Mails))
noncomputable def w1a(a0:zda):Option zda:=
 (jka a0.S.Data).bind fun v1=>(bif decide (0 < a0.S.Lost) then (vKa a0 552 (([108,97,114,103,101]:Str))).bind fun v4=>(qHa v4).bind fun v6=>some v6 else ((bif (!v1.2) then some true else some ((a0.S.Count==1000000))):Option Bool).bind fun (j8:Bool)=>(bif j8 then (vKa a0 554 (([114,101,102,117,115,101,100]:Str))).bind fun v11=>(qHa v11).bind fun v13=>some v13 else (cat a0.S.Name (([45]:Str))).bind fun v15=>(yJa ((w64 (a0.S.Count+1)))).bind fun v17=>(cat v15 v17).bind fun v19=>(app 1353245080339 a0.Mails (([(zza.mk ((zKa.mk a0.S.From a0.S.To v19)) v1.1)]:List zza))).bind fun v21=>(vKa ((zda.mk ((zha.mk a0.S.Name a0.S.Size a0.S.Many a0.S.Phase a0.S.Greeted a0.S.Mailing a0.S.From a0.S.To a0.S.Buffer a0.S.Data a0.S.Lost a0.S.Dots a0.S.Chunked a0.S.Left a0.S.Last a0.S.Ignore ((w64 (a0.S.Count+1))))) a0.Replies v21)) 250 v19).bind fun v23=>(qHa v23).bind fun v25=>some v25))
noncomputable def w2a(a0:zda):Option zda:=
 (bif a0.S.Ignore then (vKa ((zda.mk ((zha.mk a0.S.Name a0.S.Size a0.S.Many 0 a0.S.Greeted a0.S.Mailing a0.S.From a0.S.To a0.S.Buffer a0.S.Data a0.S.Lost a0.S.Dots a0.S.Chunked a0.S.Left false false a0.S.Count)) a0.Replies a0.Mails)) 503 (([111,114,100,101,114]:Str))).bind fun v2=>some v2 else (bif a0.S.Last then (w1a ((zda.mk ((zha.mk a0.S.Name a0.S.Size a0.S.Many 0 a0.S.Greeted a0.S.Mailing a0.S.From a0.S.To a0.S.Buffer a0.S.Data a0.S.Lost a0.S.Dots a0.S.Chunked a0.S.Left false false a0.S.Count)) a0.Replies a0.Mails))).bind fun v5=>some v5 else (vKa ((zda.mk ((zha.mk a0.S.Name a0.S.Size a0.S.Many 0 a0.S.Greeted a0.S.Mailing a0.S.From a0.S.To a0.S.Buffer a0.S.Data a0.S.Lost a0.S.Dots a0.S.Chunked a0.S.Left false false a0.S.Count)) a0.Replies a0.Mails)) 250 (([111,107]:Str))).bind fun v7=>some v7))
def qVa(j1:zda):Option zda:=
 (vKa j1 250 (([111,107]:Str))).bind fun v2=>some v2
noncomputable def Zda(a0:zda)(a1:zoa):Option zda:=
 (bif (a1.Verb==1) then (qHa a0).bind fun v5=>(yJa v5.S.Size).bind fun v7=>(cat (([115,105,122,101,32]:Str)) v7).bind fun v9=>(yJa v5.S.Many).bind fun v11=>(cat (([114,101,99,105,112,105,101,110,116,115,32]:Str)) v11).bind fun v13=>(app 4398046511104 v5.Replies (([(zka.mk 250 (([v5.S.Name,v9,v13]:List Str)))]:List zka))).bind fun v15=>some ((zda.mk ((zha.mk v5.S.Name v5.S.Size v5.S.Many v5.S.Phase true v5.S.Mailing v5.S.From v5.S.To v5.S.Buffer v5.S.Data v5.S.Lost v5.S.Dots v5.S.Chunked v5.S.Left v5.S.Last v5.S.Ignore v5.S.Count)) v15 v5.Mails)) else (bif (a1.Verb==2) then ((bif (!a0.S.Greeted) then some true else some a0.S.Mailing):Option Bool).bind fun (j18:Bool)=>(bif j18 then (vKa a0 503 (([111,114,100,101,114]:Str))).bind fun v21=>some v21 else (bif decide (a0.S.Size < a1.Size) then (vKa a0 552 (([108,97,114,103,101]:Str))).bind fun v24=>some v24 else (qVa (zda.mk ((zha.mk a0.S.Name a0.S.Size a0.S.Many a0.S.Phase a0.S.Greeted true a1.Address a0.S.To a0.S.Buffer a0.S.Data a0.S.Lost a0.S.Dots a0.S.Chunked a0.S.Left a0.S.Last a0.S.Ignore a0.S.Count)) a0.Replies a0.Mails)))) else (bif (a1.Verb==3) then ((bif (!a0.S.Mailing) then some true else some a0.S.Chunked):Option Bool).bind fun (j27:Bool)=>(bif j27 then (vKa a0 503 (([111,114,100,101,114]:Str))).bind fun v30=>some v30 else (app 5864062014805 (([]:List zca)) a0.S.To).bind fun v32=>(app 5864062014805 v32 (([(zca.mk a1.Address a1.Notify)]:List zca))).bind fun v34=>(Vda v34).bind fun v36=>(bif decide (a0.S.Many < (v36.length:Int)) then (vKa a0 452 (([109,97,110,121]:Str))).bind fun v39=>some v39 else (qVa (zda.mk ((zha.mk a0.S.Name a0.S.Size a0.S.Many a0.S.Phase a0.S.Greeted a0.S.Mailing a0.S.From v36 a0.S.Buffer a0.S.Data a0.S.Lost a0.S.Dots a0.S.Chunked a0.S.Left a0.S.Last a0.S.Ignore a0.S.Count)) a0.Replies a0.Mails)))) else (bif (a1.Verb==4) then ((bif ((a0.S.To.length:Int)==0) then some true else some a0.S.Chunked):Option Bool).bind fun (j42:Bool)=>(bif j42 then (vKa a0 503 (([111,114,100,101,114]:Str))).bind fun v45=>some v45 else (vKa ((zda.mk ((zha.mk a0.S.Name a0.S.Size a0.S.Many 1 a0.S.Greeted a0.S.Mailing a0.S.From a0.S.To a0.S.Buffer a0.S.Data a0.S.Lost 0 a0.S.Chunked a0.S.Left a0.S.Last a0.S.Ignore a0.S.Count)) a0.Replies a0.Mails)) 354 (([103,111,32,111,110]:Str))).bind fun v47=>some v47) else (bif (a1.Verb==5) then ((bif (!(((a0.S.To.length:Int)==0))) then some ((zda.mk ((zha.mk a0.S.Name a0.S.Size a0.S.Many 2 a0.S.Greeted a0.S.Mailing a0.S.From a0.S.To a0.S.Buffer a0.S.Data a0.S.Lost a0.S.Dots true a1.Size a1.Last (((a0.S.To.length:Int)==0)) a0.S.Count)) a0.Replies a0.Mails)) else some ((zda.mk ((zha.mk a0.S.Name a0.S.Size a0.S.Many 2 a0.S.Greeted a0.S.Mailing a0.S.From a0.S.To a0.S.Buffer a0.S.Data a0.S.Lost a0.S.Dots a0.S.Chunked a1.Size a1.Last (((a0.S.To.length:Int)==0)) a0.S.Count)) a0.Replies a0.Mails))):Option zda).bind fun (j50:zda)=>(bif (a1.Size==0) then (w2a j50).bind fun v53=>some v53 else some j50) else (bif (a1.Verb==6) then (qHa a0).bind fun v56=>(qVa v56) else (bif (a1.Verb==8) then (qHa a0).bind fun v59=>(vKa ((zda.mk ((zha.mk v59.S.Name v59.S.Size v59.S.Many 3 v59.S.Greeted v59.S.Mailing v59.S.From v59.S.To v59.S.Buffer v59.S.Data v59.S.Lost v59.S.Dots v59.S.Chunked v59.S.Left v59.S.Last v59.S.Ignore v59.S.Count)) v59.Replies v59.Mails)) 221 (([98,121,101]:Str))).bind fun v61=>some v61 else (qVa a0))))))))
noncomputable def jla(a0:zda)(a1:UInt8):Option zda:=
 (app 140737488355328 (([]:List UInt8)) a0.S.Buffer).bind fun v1=>(app 140737488355328 v1 (([a1]:List UInt8))).bind fun v3=>((bif decide (2<=(v3.length:Int)) then (idx v3 ((w64 ((v3.length:Int) - 2)))).bind fun v7=>(bif ((v7.toNat:Int)==13) then (idx v3 ((w64 ((v3.length:Int) - 1)))).bind fun v10=>some (((v10.toNat:Int)==10)) else some false) else some false):Option Bool).bind fun (j5:Bool)=>(bif j5 then (cut v3 0 ((w64 ((v3.length:Int) - 2)))).bind fun v13=>(jia v13).bind fun v15=>(bif (v15.2.Code==18) then (vKa ((zda.mk ((zha.mk a0.S.Name a0.S.Size a0.S.Many a0.S.Phase a0.S.Greeted a0.S.Mailing a0.S.From a0.S.To ([]) a0.S.Data a0.S.Lost a0.S.Dots a0.S.Chunked a0.S.Left a0.S.Last a0.S.Ignore a0.S.Count)) a0.Replies a0.Mails)) 500 (([117,110,107,110,111,119,110]:Str))).bind fun v18=>some v18 else (bif (v15.2.Code !=0) then (vKa ((zda.mk ((zha.mk a0.S.Name a0.S.Size a0.S.Many a0.S.Phase a0.S.Greeted a0.S.Mailing a0.S.From a0.S.To ([]) a0.S.Data a0.S.Lost a0.S.Dots a0.S.Chunked a0.S.Left a0.S.Last a0.S.Ignore a0.S.Count)) a0.Replies a0.Mails)) 501 (([115,121,110,116,97,120]:Str))).bind fun v21=>some v21 else (Zda ((zda.mk ((zha.mk a0.S.Name a0.S.Size a0.S.Many a0.S.Phase a0.S.Greeted a0.S.Mailing a0.S.From a0.S.To ([]) a0.S.Data a0.S.Lost a0.S.Dots a0.S.Chunked a0.S.Left a0.S.Last a0.S.Ignore a0.S.Count)) a0.Replies a0.Mails)) v15.1).bind fun v23=>some v23)) else (bif ((v3.length:Int)==4002) then (qHa ((zda.mk ((zha.mk a0.S.Name a0.S.Size a0.S.Many a0.S.Phase a0.S.Greeted a0.S.Mailing a0.S.From a0.S.To v3 a0.S.Data a0.S.Lost a0.S.Dots a0.S.Chunked a0.S.Left a0.S.Last a0.S.Ignore a0.S.Count)) a0.Replies a0.Mails))).bind fun v26=>(vKa ((zda.mk ((zha.mk v26.S.Name v26.S.Size v26.S.Many 3 v26.S.Greeted v26.S.Mailing v26.S.From v26.S.To ([]) v26.S.Data v26.S.Lost v26.S.Dots v26.S.Chunked v26.S.Left v26.S.Last v26.S.Ignore v26.S.Count)) v26.Replies v26.Mails)) 500 (([117,110,107,110,111,119,110]:Str))).bind fun v28=>some v28 else some ((zda.mk ((zha.mk a0.S.Name a0.S.Size a0.S.Many a0.S.Phase a0.S.Greeted a0.S.Mailing a0.S.From a0.S.To v3 a0.S.Data a0.S.Lost a0.S.Dots a0.S.Chunked a0.S.Left a0.S.Last a0.S.Ignore a0.S.Count)) a0.Replies a0.Mails))))
def ZDa(a0:zda)(a1:UInt8):Option zda:=
 ((bif decide ((a0.S.Data.length:Int) < a0.S.Size) then (app 140737488355328 a0.S.Data (([a1]:List UInt8))).bind fun v3=>some ((zda.mk ((zha.mk a0.S.Name a0.S.Size a0.S.Many a0.S.Phase a0.S.Greeted a0.S.Mailing a0.S.From a0.S.To a0.S.Buffer v3 a0.S.Lost a0.S.Dots a0.S.Chunked a0.S.Left a0.S.Last a0.S.Ignore a0.S.Count)) a0.Replies a0.Mails)) else (bif decide (a0.S.Lost < 1099511627776) then some ((zda.mk ((zha.mk a0.S.Name a0.S.Size a0.S.Many a0.S.Phase a0.S.Greeted a0.S.Mailing a0.S.From a0.S.To a0.S.Buffer a0.S.Data ((w64 (a0.S.Lost+1))) a0.S.Dots a0.S.Chunked a0.S.Left a0.S.Last a0.S.Ignore a0.S.Count)) a0.Replies a0.Mails)) else some a0)):Option zda).bind fun (j1:zda)=>some j1
noncomputable def jma(a0:zda)(a1:UInt8):Option zda:=
 ((bif (a0.S.Dots==0) then some (((a1.toNat:Int)==46)) else some false):Option Bool).bind fun (j1:Bool)=>(bif j1 then some ((zda.mk ((zha.mk a0.S.Name a0.S.Size a0.S.Many a0.S.Phase a0.S.Greeted a0.S.Mailing a0.S.From a0.S.To a0.S.Buffer a0.S.Data a0.S.Lost 1 a0.S.Chunked a0.S.Left a0.S.Last a0.S.Ignore a0.S.Count)) a0.Replies a0.Mails)) else ((bif (a0.S.Dots==1) then some (((a1.toNat:Int)==13)) else some false):Option Bool).bind fun (j4:Bool)=>(bif j4 then some ((zda.mk ((zha.mk a0.S.Name a0.S.Size a0.S.Many a0.S.Phase a0.S.Greeted a0.S.Mailing a0.S.From a0.S.To a0.S.Buffer a0.S.Data a0.S.Lost 2 a0.S.Chunked a0.S.Left a0.S.Last a0.S.Ignore a0.S.Count)) a0.Replies a0.Mails)) else ((bif (a0.S.Dots==2) then some (((a1.toNat:Int)==10)) else some false):Option Bool).bind fun (j7:Bool)=>(bif j7 then (w1a ((zda.mk ((zha.mk a0.S.Name a0.S.Size a0.S.Many 0 a0.S.Greeted a0.S.Mailing a0.S.From a0.S.To a0.S.Buffer a0.S.Data a0.S.Lost 0 a0.S.Chunked a0.S.Left a0.S.Last a0.S.Ignore a0.S.Count)) a0.Replies a0.Mails))).bind fun v10=>some v10 else ((bif (a0.S.Dots==2) then (ZDa a0 ((13:UInt8))).bind fun v14=>some v14 else some a0):Option zda).bind fun (j12:zda)=>(ZDa j12 a1).bind fun v16=>((bif ((a1.toNat:Int)==13) then some ((zda.mk ((zha.mk v16.S.Name v16.S.Size v16.S.Many v16.S.Phase v16.S.Greeted v16.S.Mailing v16.S.From v16.S.To v16.S.Buffer v16.S.Data v16.S.Lost 4 v16.S.Chunked v16.S.Left v16.S.Last v16.S.Ignore v16.S.Count)) v16.Replies v16.Mails)) else some ((zda.mk ((zha.mk v16.S.Name v16.S.Size v16.S.Many v16.S.Phase v16.S.Greeted v16.S.Mailing v16.S.From v16.S.To v16.S.Buffer v16.S.Data v16.S.Lost 3 v16.S.Chunked v16.S.Left v16.S.Last v16.S.Ignore v16.S.Count)) v16.Replies v16.Mails))):Option zda).bind fun (j18:zda)=>(((bif (a0.S.Dots==4) then some (((a1.toNat:Int)==10)) else some false):Option Bool).bind fun (j21:Bool)=>(bif j21 then some ((zda.mk ((zha.mk j18.S.Name j18.S.Size j18.S.Many j18.S.Phase j18.S.Greeted j18.S.Mailing j18.S.From j18.S.To j18.S.Buffer j18.S.Data j18.S.Lost 0 j18.S.Chunked j18.S.Left j18.S.Last j18.S.Ignore j18.S.Count)) j18.Replies j18.Mails)) else some j18):Option zda).bind fun (j20:zda)=>some j20)))
noncomputable def vza(a1:List UInt8)(s3:Int × zda):Option (Step (Int × zda) zda):=
 (bif decide (s3.1 < (a1.length:Int)) then ((bif (s3.2.S.Phase==0) then (idx a1 s3.1).bind fun v9=>(jla s3.2 v9).bind fun v11=>some v11 else (bif (s3.2.S.Phase==1) then (idx a1 s3.1).bind fun v14=>(jma s3.2 v14).bind fun v16=>some v16 else (bif (s3.2.S.Phase==2) then ((bif (!s3.2.S.Ignore) then (idx a1 s3.1).bind fun v21=>(ZDa s3.2 v21).bind fun v23=>some v23 else some s3.2):Option zda).bind fun (j19:zda)=>(bif ((w64 (j19.S.Left - 1))==0) then (w2a ((zda.mk ((zha.mk j19.S.Name j19.S.Size j19.S.Many j19.S.Phase j19.S.Greeted j19.S.Mailing j19.S.From j19.S.To j19.S.Buffer j19.S.Data j19.S.Lost j19.S.Dots j19.S.Chunked ((w64 (j19.S.Left - 1))) j19.S.Last j19.S.Ignore j19.S.Count)) j19.Replies j19.Mails))).bind fun v26=>some v26 else some ((zda.mk ((zha.mk j19.S.Name j19.S.Size j19.S.Many j19.S.Phase j19.S.Greeted j19.S.Mailing j19.S.From j19.S.To j19.S.Buffer j19.S.Data j19.S.Lost j19.S.Dots j19.S.Chunked ((w64 (j19.S.Left - 1))) j19.S.Last j19.S.Ignore j19.S.Count)) j19.Replies j19.Mails))) else some s3.2))):Option zda).bind fun (j7:zda)=>some (.cont ((w64 (s3.1+1)),j7)) else some (.out s3.2))
noncomputable def Kha(a0:zha)(a1:List UInt8):Option zda:=
 (app 140737488355328 ([]:List UInt8) a0.Data).bind fun v1=>(iter (vza a1) ((0,(zda.mk ((zha.mk a0.Name a0.Size a0.Many a0.Phase a0.Greeted a0.Mailing a0.From a0.To a0.Buffer v1 a0.Lost a0.Dots a0.Chunked a0.Left a0.Last a0.Ignore a0.Count)) (([]:List zka)) (([]:List zza)))))).bind fun b4=>some b4
noncomputable def vba(a0:zha):Option zta:=
 ((ZBa a0.Name).bind fun v2=>(bif (!v2) then some true else some (decide (40 < (a0.Name.length:Int)))):Option Bool).bind fun (j1:Bool)=>(bif j1 then (R_At 10 ((-20))).bind fun v6=>some v6 else (R_In a0.Size 1 12000).bind fun v8=>(bif (!v8) then (R_At 3 ((-21))).bind fun v11=>some v11 else (R_In a0.Many 1 60).bind fun v13=>(bif (!v13) then (R_At 3 ((-22))).bind fun v16=>some v16 else some ((zta.mk 0 0)))))
noncomputable def Woa(a0:Str)(a1:Int)(a2:Int):Option (zha × zka × zta):=
 (vba ((zha.mk a0 a1 a2 0 false false (([]:Str)) ([]) ([]) ([]) 0 0 false 0 false false 0))).bind fun v1=>(bif (v1.Code !=0) then some (((zha.mk (([]:Str)) 0 0 0 false false (([]:Str)) ([]) ([]) ([]) 0 0 false 0 false false 0),(zka.mk 0 ([])),v1)) else some (((zha.mk a0 a1 a2 0 false false (([]:Str)) ([]) ([]) ([]) 0 0 false 0 false false 0),(zka.mk 220 (([a0]:List Str))),v1)))
noncomputable def Kia(a0:List UInt8):Option Bool:=
 (Yya a0).bind fun v1=>some (decide (0 < (v1.1.length:Int)))
noncomputable def Zea(a0:zha):Option Bool:=
 ((bif (a0.From !=([]:Str)) then (qia a0.From).bind fun v3=>(bif (!v3) then some true else some (decide (a0.Many < (a0.To.length:Int)))) else some (decide (a0.Many < (a0.To.length:Int)))):Option Bool).bind fun (j1:Bool)=>(bif j1 then some false else ((bif decide (0 < (a0.To.length:Int)) then (vua ((zKa.mk (([]:Str)) a0.To (([]:Str))))).bind fun v9=>some ((v9.Code !=0)) else some false):Option Bool).bind fun (j7:Bool)=>(bif j7 then some false else ((bif a0.Mailing then (bif (!a0.Greeted) then some true else (bif (!a0.Mailing) then (bif (a0.From !=([]:Str)) then some true else (bif decide (0 < (a0.To.length:Int)) then some true else some a0.Chunked)) else some false)) else (bif (!a0.Mailing) then (bif (a0.From !=([]:Str)) then some true else (bif decide (0 < (a0.To.length:Int)) then some true else some a0.Chunked)) else some false)):Option Bool).bind fun (j12:Bool)=>(bif j12 then some false else ((bif a0.Chunked then some (((a0.To.length:Int)==0)) else some false):Option Bool).bind fun (j22:Bool)=>(bif j22 then some false else ((bif decide (a0.Size < (a0.Data.length:Int)) then some true else (R_In a0.Lost 0 1099511627776).bind fun v27=>(bif (!v27) then some true else (R_In a0.Count 0 1000000).bind fun v30=>some ((!v30)))):Option Bool).bind fun (j25:Bool)=>(bif j25 then some false else ((bif decide (0 < (a0.Data.length:Int)) then (bif (!a0.Chunked) then some ((a0.Phase !=1)) else some false) else (bif decide (0 < a0.Lost) then (bif (!a0.Chunked) then some ((a0.Phase !=1)) else some false) else some false)):Option Bool).bind fun (j33:Bool)=>(bif j33 then some false else ((bif (a0.Phase !=0) then (bif decide (0 < (a0.Buffer.length:Int)) then some true else (bif (a0.Phase !=1) then (bif (a0.Dots !=0) then some true else (bif (a0.Phase !=2) then (bif (a0.Left !=0) then some true else (bif a0.Last then some true else some a0.Ignore)) else some false)) else (bif (a0.Phase !=2) then (bif (a0.Left !=0) then some true else (bif a0.Last then some true else some a0.Ignore)) else some false))) else (bif (a0.Phase !=1) then (bif (a0.Dots !=0) then some true else (bif (a0.Phase !=2) then (bif (a0.Left !=0) then some true else (bif a0.Last then some true else some a0.Ignore)) else some false)) else (bif (a0.Phase !=2) then (bif (a0.Left !=0) then some true else (bif a0.Last then some true else some a0.Ignore)) else some false))):Option Bool).bind fun (j39:Bool)=>(bif j39 then some false else (bif (a0.Phase==0) then ((bif decide ((a0.Buffer.length:Int)<=4001) then (Kia a0.Buffer).bind fun v62=>some ((!v62)) else some false):Option Bool).bind fun (j60:Bool)=>some j60 else (bif (a0.Phase==1) then ((bif a0.Mailing then (bif decide (0 < (a0.To.length:Int)) then (bif (!a0.Chunked) then (R_In a0.Dots 0 4).bind fun v69=>some v69 else some false) else some false) else some false):Option Bool).bind fun (j65:Bool)=>some j65 else (bif (a0.Phase==2) then ((bif (a0.Ignore==((a0.To.length:Int)==0)) then (bif (a0.Ignore==(!a0.Chunked)) then (R_In a0.Left 1 1000000).bind fun v75=>some v75 else some false) else some false):Option Bool).bind fun (j72:Bool)=>some j72 else (bif (a0.Phase==3) then some ((!a0.Mailing)) else some false)))))))))))
noncomputable def v4a(a0:zha):Option zta:=
 (vba a0).bind fun v1=>(((bif (v1.Code==0) then (Zea a0).bind fun v6=>some ((!v6)) else some false):Option Bool).bind fun (j4:Bool)=>(bif j4 then (R_At 5 ((-23))).bind fun v9=>some ((v9.Code,v9.Index)) else some ((v1.Code,v1.Index))):Option (Int × Int)).bind fun (j3:Int × Int)=>some ((zta.mk j3.1 j3.2))
noncomputable def qfa(a0:zha)(a1:zha):Option Bool:=
 ((bif (a0.Name !=a1.Name) then some true else (bif (a0.Size !=a1.Size) then some true else (bif (a0.Many !=a1.Many) then some true else (bif (a0.Phase !=a1.Phase) then some true else (bif (a0.Greeted !=a1.Greeted) then some true else (bif (a0.Mailing !=a1.Mailing) then some true else (bif (a0.From !=a1.From) then some true else some ((a0.Chunked !=a1.Chunked))))))))):Option Bool).bind fun (j1:Bool)=>(bif j1 then some false else ((bif (a0.Buffer !=a1.Buffer) then some true else (bif (a0.Data !=a1.Data) then some true else (bif (a0.Lost !=a1.Lost) then some true else (bif (a0.Dots !=a1.Dots) then some true else (bif (a0.Left !=a1.Left) then some true else (bif (a0.Last !=a1.Last) then some true else (bif (a0.Ignore !=a1.Ignore) then some true else some ((a0.Count !=a1.Count))))))))):Option Bool).bind fun (j10:Bool)=>(bif j10 then some false else (q1a a0.To a1.To).bind fun v19=>some v19))
noncomputable def Zfa:Option Bool:=
 (ySa (([109,120]:Str)) 1000 10).bind fun v1=>(w0a v1.1 (([(104:UInt8),(101:UInt8),(108:UInt8),(108:UInt8),(111:UInt8),(32:UInt8),(99:UInt8),(13:UInt8),(10:UInt8),(109:UInt8),(97:UInt8),(105:UInt8),(108:UInt8),(32:UInt8),(60:UInt8),(115:UInt8),(64:UInt8),(120:UInt8),(62:UInt8),(13:UInt8),(10:UInt8),(114:UInt8),(99:UInt8),(112:UInt8),(116:UInt8),(32:UInt8),(60:UInt8),(97:UInt8),(64:UInt8),(121:UInt8),(62:UInt8),(13:UInt8),(10:UInt8),(100:UInt8),(97:UInt8),(116:UInt8),(97:UInt8),(13:UInt8),(10:UInt8),(13:UInt8),(10:UInt8),(46:UInt8),(46:UInt8),(13:UInt8),(10:UInt8),(46:UInt8),(13:UInt8),(10:UInt8),(110:UInt8),(111:UInt8),(111:UInt8),(112:UInt8),(13:UInt8),(10:UInt8)]:List UInt8))).bind fun v3=>(ySa (([]:Str)) 1 1).bind fun v5=>((bif (v1.2.2.Code !=0) then some true else (bif (v3.2.2.2.Code !=0) then some true else (R_At 10 ((-20))).bind fun v10=>(bif (!(wqa [(v5.2.2.Code==v10.Code),(v5.2.2.Index==v10.Index)])) then some true else (bif (v1.2.1.Code !=220) then some true else (bif ((v3.2.1.length:Int) !=6) then some true else (bif ((v3.2.2.1.length:Int) !=1) then some true else (idx v3.2.2.1 0).bind fun v16=>some (((v16.Envelope.To.length:Int) !=1)))))))):Option Bool).bind fun (j7:Bool)=>(bif j7 then some false else ((idx v3.2.1 3).bind fun v20=>(bif (v20.Code==354) then (idx v3.2.1 4).bind fun v23=>(j6a v23.Lines (([([109,120,45,49]:Str)]:List Str))).bind fun v25=>(bif v25 then (idx v3.2.1 5).bind fun v28=>(bif (v28.Code==250) then (bif (v3.1.Count==1) then (idx v3.2.2.1 0).bind fun v32=>(bif (v32.Envelope.From==([115,64,120]:Str)) then (idx v3.2.2.1 0).bind fun v35=>(bif (v35.Envelope.Id==([109,120,45,49]:Str)) then (idx v3.2.2.1 0).bind fun v38=>some ((v38.Message.Body==([46,13,10]:Str))) else some false) else some false) else some false) else some false) else some false) else some false):Option Bool).bind fun (j19:Bool)=>some j19)
noncomputable def v8a(a0:List zka)(a1:List zka)(s2:Int):Option (Step Int (Unit ⊕ Bool)):=
 (bif decide (s2 < (a0.length:Int)) then (idx a0 s2).bind fun v8=>(idx a1 s2).bind fun v10=>(y7a v8 v10).bind fun v12=>(bif (!v12) then some (.out (.inr false)) else some (.cont (w64 (s2+1)))) else some (.out (.inl (()))))
noncomputable def wGa(a0:List zka)(a1:List zka):Option Bool:=
 (bif ((a0.length:Int) !=(a1.length:Int)) then some false else (iter (v8a a0 a1) 0).bind (Sum.elim (fun b3=>some true) (fun b4=>some b4)))
noncomputable def qta(a0:zha)(a1:List UInt8):Option Bool:=
 (w0a a0 a1).bind fun v1=>(v4a a0).bind fun v3=>(((bif (v3.Code==0) then some (decide (40000 < (a1.length:Int))) else some false):Option Bool).bind fun (j6:Bool)=>(bif j6 then (R_At 1 ((-1))).bind fun v9=>some ((v9.Code,v9.Index)) else some ((v3.Code,v3.Index))):Option (Int × Int)).bind fun (j5:Int × Int)=>((Zfa).bind fun v12=>(bif (!v12) then some true else (bif (!(wqa [(v1.2.2.2.Code==j5.1),(v1.2.2.2.Index==j5.2)])) then some true else some ((j5.1 !=0)))):Option Bool).bind fun (j11:Bool)=>(bif j11 then ((Zfa).bind fun v18=>(bif v18 then (bif (wqa [(v1.2.2.2.Code==j5.1),(v1.2.2.2.Index==j5.2)]) then (bif ((v1.2.1.length:Int)==0) then (bif ((v1.2.2.1.length:Int)==0) then (qfa v1.1 ((zha.mk (([]:Str)) 0 0 0 false false (([]:Str)) ([]) ([]) ([]) 0 0 false 0 false false 0))).bind fun v24=>some v24 else some false) else some false) else some false) else some false):Option Bool).bind fun (j17:Bool)=>some j17 else (Kha a0 a1).bind fun v26=>((qfa v1.1 v26.S).bind fun v29=>(bif v29 then (wGa v1.2.1 v26.Replies).bind fun v32=>(bif v32 then (y6a v1.2.2.1 v26.Mails).bind fun v35=>some v35 else some false) else some false):Option Bool).bind fun (j28:Bool)=>some j28)
section
theorem jub(a b:Nat)(h:a+b<=9223372036854775807):w64 ((a:Int)+(b:Int))=((a+b:Nat):Int):=by
 rw[q0a (by omega) (by omega)];simp
theorem wgb(a k:Nat)(h:a+OfNat.ofNat k<=9223372036854775807):w64 ((a:Int)+(no_index (OfNat.ofNat k:Int)))=((a+OfNat.ofNat k:Nat):Int):=by
 have e:(OfNat.ofNat k:Int)=((OfNat.ofNat k:Nat):Int):=rfl;rw[e];exact jub a _ h
theorem jvb(a b:Nat)(h:b<=a)(ha:a<=9223372036854775807):w64 ((a:Int) - (b:Int))=((a - b:Nat):Int):=by
 rw[q0a (by omega) (by omega)];omega
theorem jwb(a k:Nat)(h:OfNat.ofNat k<=a)(ha:a<=9223372036854775807):w64 ((a:Int) - (no_index (OfNat.ofNat k:Int)))=((a - OfNat.ofNat k:Nat):Int):=by
 have e:(OfNat.ofNat k:Int)=((OfNat.ofNat k:Nat):Int):=rfl;rw[e];exact jvb a _ h ha
theorem ZWa(a:Nat)(h:a<=9223372036854775807):w64 (a:Int)=(a:Int):=q0a (by omega) (by omega)
theorem qWa(c:UInt8)(k:Nat)(hk:OfNat.ofNat k < 256):((c.toNat:Int)==no_index (OfNat.ofNat k:Int))=(c==OfNat.ofNat k):=by
 have e:(OfNat.ofNat k:Int)=((OfNat.ofNat k:Nat):Int):=rfl;have h2:(OfNat.ofNat k:UInt8).toNat=(OfNat.ofNat k:Nat):=by
  show (UInt8.ofNat k).toNat=k;rw[UInt8.toNat_ofNat'];exact Nat.mod_eq_of_lt hk
 rw[Bool.eq_iff_iff,beq_iff_eq,beq_iff_eq,<-UInt8.toNat_inj,h2,e];omega
theorem K6a(c:UInt8)(k:Nat)(hk:OfNat.ofNat k < 256):((c.toNat:Int) !=no_index (OfNat.ofNat k:Int))=(c !=OfNat.ofNat k):=by
 unfold bne;rw[qWa c k hk]
section
variable {α:Type}
theorem w3a(l:List α)(i:Nat):idx l (i:Int)=l[i]? :=by unfold idx;rw[if_pos (by omega)];simp
theorem Kja{l:List α}{i:Nat}(h:i < l.length):idx l (i:Int)=some l[i]:=by rw[w3a];exact List.getElem?_eq_getElem h
theorem vcb(p:List α)(x:α)(r:List α):idx (p++x::r) (p.length:Int)=some x:=by rw[w3a];simp
theorem kUb{l:List α}{a b:Nat}(h1:a<=b)(h2:b<=l.length):cut l (a:Int) (b:Int)=some ((l.drop a).take (b - a)):=by
 unfold cut;rw[if_pos (by omega)];simp
theorem jna{l:List α}{a:Nat}(h1:a<=l.length):cut l (a:Int) (l.length:Int)=some (l.drop a):=by
 rw[kUb h1 (Nat.le_refl _)];rw[List.take_of_length_le (by simp)]
theorem Zga{l:List α}{b:Nat}(h2:b<=l.length):cut l 0 (b:Int)=some (l.take b):=by
 have:=kUb (l:=l) (a:=0) (b:=b) (by omega) h2;simpa using this
theorem kha{lim:Nat}{l xs:List α}(h:l.length+xs.length<=lim):app lim l xs=some (l++xs):=by unfold app;rw[if_pos h]
theorem Zha{a b:Str}(h:a.length+b.length<=9223372036854775807):cat a b=some (a++b):=by unfold cat;rw[if_pos h]
end
section
variable {A R:Type} {body:A->Option (Step A R)}
theorem W4a(Inv:A->Prop)(m:A->Nat)(Post:A->R->Prop)
 (h:∀s,Inv s->(∃r,body s=some (.out r)/\Post s r)∨∃s',body s=some (.cont s')/\Inv s' /\m s' < m s/\∀r,Post s' r->Post s r):
 ∀s,Inv s->∃r,iter body s=some r/\Post s r:=by
 intro s;induction hn:m s using Nat.strongRecOn generalizing s with
 | _ n ih=>
  intro hi;rcases h s hi with ⟨r,h1,h2⟩ | ⟨s',h1,h2,h3,h4⟩
  .exact ⟨r,zGa h1,h2⟩
  obtain ⟨r,h5,h6⟩:=ih (m s') (by omega) s' rfl h2;exact ⟨r,(zNa h1).trans h5,h4 r h6⟩
theorem jxb{α S:Type}(l:List α)(enc:Nat->S->A)(spec:Nat->List α->S->R)
 (h0:∀s,body (enc l.length s)=some (.out (spec l.length [] s)))
 (h1:∀p x r s,l=p++x::r->(body (enc p.length s)=some (.out (spec p.length (x::r) s)))∨∃s',body (enc p.length s)=some (.cont (enc (p.length+1) s'))/\spec p.length (x::r) s=spec (p.length+1) r s'):
 ∀{s0:A} (s:S) (_:s0=enc 0 s),iter body s0=some (spec 0 l s):=by
 have key:∀r p s,l=p++r->iter body (enc p.length s)=some (spec p.length r s):=by
  intro r;induction r with
  | nil=>
   intro p s h;have:p=l:=by simp[h]
   subst this;exact zGa (h0 s)
  | cons x r ih=>
   intro p s h;rcases h1 p x r s h with hb | ⟨s',hb,hs⟩
   .exact zGa hb
   rw[zNa hb,hs];have:=ih (p++ [x]) s' (by simp[h]);simpa using this
 rintro _ s rfl;exact key l [] s rfl
theorem J0a{α S:Type}(l:List α)(enc:Nat->S->A)(spec:Nat->List α->S->R)(Inv:Nat->List α->S->Prop)
 (h0:∀s,Inv l.length [] s->body (enc l.length s)=some (.out (spec l.length [] s)))
 (h1:∀p x r s,l=p++x::r->Inv p.length (x::r) s->(body (enc p.length s)=some (.out (spec p.length (x::r) s)))∨∃s',body (enc p.length s)=some (.cont (enc (p.length+1) s'))/\spec p.length (x::r) s=spec (p.length+1) r s' /\Inv (p.length+1) r s'):
 ∀{s0:A} (s:S) (_:s0=enc 0 s) (_:Inv 0 l s),iter body s0=some (spec 0 l s):=by
 have key:∀r p s,l=p++r->Inv p.length r s->iter body (enc p.length s)=some (spec p.length r s):=by
  intro r;induction r with
  | nil=>
   intro p s h hi;have:p=l:=by simp[h]
   subst this;exact zGa (h0 s hi)
  | cons x r ih=>
   intro p s h hi;rcases h1 p x r s h hi with hb | ⟨s',hb,hs,hi'⟩
   .exact zGa hb
   rw[zNa hb,hs];have:=ih (p++ [x]) s' (by simp[h]) (by simpa using hi');simpa using this
 rintro _ s rfl hi;exact key l [] s rfl hi
end
end
section
section
variable {α R O A S:Type}
def zEa(q:Nat->α->Option R):Nat->List α->Option R
 | _,[]=>none
 | i,x::r=>match q i x with | some y=>some y | none=>zEa q (i+1) r
theorem zIa(l:List α)(q:Nat->α->Option R)(oN:O)(oS:R->O){body:Int->Option (Step Int O)}(hl:body (l.length:Int)=some (.out oN))
 (hs:∀(i:Nat) x,l[i]? =some x->body (i:Int)=some ((q i x).elim (.cont ((i+1:Nat):Int)) fun r=>.out (oS r))):
 iter body 0=some ((zEa q 0 l).elim oN oS):=by
 have key:∀r p,l=p++r->iter body (p.length:Int)=some ((zEa q p.length r).elim oN oS):=by
  intro r;induction r with
  | nil=>
   intro p h;have:p=l:=by simp[h]
   subst this;exact zGa hl
  | cons x r ih=>
   intro p h;have hx:=hs p.length x (by simp[h]);unfold zEa;cases hq:q p.length x with
   | some y=>rw[hq]at hx;exact zGa hx
   | none=>
    rw[hq]at hx;rw[zNa hx];have:=ih (p++ [x]) (by simp[h]);simpa using this
 exact key l [] rfl
theorem KWa(l:List α)(enc:Int->S->A)(f:Nat->S->α->S)(out:S->O)(Inv:Nat->S->Prop){body:A->Option (Step A O)}
 (hl:∀s,Inv l.length s->body (enc l.length s)=some (.out (out s)))
 (hs:∀(i:Nat) x s,l[i]? =some x->Inv i s->body (enc i s)=some (.cont (enc ((i+1:Nat):Int) (f i s x)))/\Inv (i+1) (f i s x)) (s:S) (h0:Inv 0 s):
 ∃t,iter body (enc 0 s)=some (out t)/\Inv l.length t/\t=(l.zipIdx.foldl (fun s p=>f p.2 s p.1) s):=by
 have key:∀r p s,l=p++r->Inv p.length s->∃t,iter body (enc (p.length:Int) s)=some (out t)/\Inv l.length t/\t=((r.zipIdx p.length).foldl (fun s p=>f p.2 s p.1) s):=by
  intro r;induction r with
  | nil=>
   intro p s h hi;have:p=l:=by simp[h]
   subst this;exact ⟨s,zGa (hl s hi),hi,rfl⟩
  | cons x r ih=>
   intro p s h hi;obtain ⟨h1,h2⟩:=hs p.length x s (by simp[h]) hi;rw[zNa h1];obtain ⟨t,h3,h4,h5⟩:=ih (p++ [x]) (f p.length s x) (by simp[h]) (by simpa using h2);refine ⟨t,by simpa using h3,h4,?_⟩;rw[h5];simp
 exact key l [] s rfl h0
theorem kVb(f:S->α->S)(l:List α):∀(n:Nat) (s:S),(l.zipIdx n).foldl (fun s p=>f s p.1) s=l.foldl f s:=by
 induction l with
 | nil=>intro n s;rfl
 | cons x r ih=>intro n s;simp[ih]
theorem Zia(l:List α)(enc:Int->S->A)(f:S->α->S)(out:S->O)(Inv:Nat->S->Prop){body:A->Option (Step A O)}
 (hl:∀s,Inv l.length s->body (enc l.length s)=some (.out (out s)))
 (hs:∀(i:Nat) x s,l[i]? =some x->Inv i s->body (enc i s)=some (.cont (enc ((i+1:Nat):Int) (f s x)))/\Inv (i+1) (f s x)) (s:S) (h0:Inv 0 s):
 iter body (enc 0 s)=some (out (l.foldl f s))/\Inv l.length (l.foldl f s):=by
 obtain ⟨t,h1,h2,h3⟩:=KWa l enc (fun _=>f) out Inv hl hs s h0;have:t=l.foldl f s:=by rw[h3];exact kVb f l 0 s
 subst this;exact ⟨h1,h2⟩
theorem Zja(c:α->Bool)(r:R)(l:List α)(n:Nat):zEa (fun _ x=>if c x then some r else none) n l=if l.any c then some r else none:=by
 induction l generalizing n with
 | nil=>rfl
 | cons x l ih=>unfold zEa;cases h:c x <;> simp[h,ih]
theorem qXa{q:Nat->α->Option R}{l:List α}{n:Nat}:zEa q n l=none↔∀(i:Nat) x,l[i]? =some x->q (n+i) x=none:=by
 induction l generalizing n with
 | nil=>simp[zEa]
 | cons x l ih=>
  unfold zEa;cases h:q n x with
  | some y=>
   simp only[reduceCtorEq,false_iff];intro hh;have:=hh 0 x rfl;rw[Nat.add_zero,h]at this;cases this
  | none=>
   rw[ih];constructor
   .intro hh i y hy;cases i with
    | zero=>simp at hy;subst hy;exact h
    | succ i=>rw[show n+(i+1)=n+1+i by omega];exact hh i y (by simpa using hy)
   intro hh i y hy;rw[show n+1+i=n+(i+1) by omega];exact hh (i+1) y (by simpa using hy)
theorem ZEa{q:Nat->α->Option R}{l:List α}{n:Nat}{r:R}(h:zEa q n l=some r):∃(i:Nat) (x:α),l[i]? =some x/\q (n+i) x=some r:=by
 induction l generalizing n with
 | nil=>cases h
 | cons x l ih=>
  unfold zEa at h;cases hq:q n x with
  | some y=>rw[hq]at h;cases h;exact ⟨0,x,rfl,hq⟩
  | none=>
   rw[hq]at h;obtain ⟨i,y,h1,h2⟩:=ih h;exact ⟨i+1,y,by simpa using h1,by rw[show n+(i+1)=n+1+i by omega];exact h2⟩
theorem zOa{l:List α}{i:Nat}{x:α}(h:l[i]? =some x):i < l.length:=(List.getElem?_eq_some_iff.1 h).1
theorem kia{l:List α}{i:Nat}{x:α}(h:l[i]? =some x):decide ((i:Int) < (l.length:Int))=true:=by have:=zOa h;simp;omega
theorem zMa(l:List α):decide ((l.length:Int) < (l.length:Int))=false:=by simp
theorem zHa{l:List α}{i:Nat}{x:α}(h:l[i]? =some x):idx l (i:Int)=some x:=by rw[w3a];exact h
end
end
def YBa(c:UInt8):Bool:=(decide (97<=c) && decide (c<=122)) || (decide (65<=c) && decide (c<=90)) || (decide (48<=c) && decide (c<=57))
def yEa(c:UInt8):Bool:=(decide (97<=c) && decide (c<=122)) || (decide (48<=c) && decide (c<=57)) || c==45 || c==46
def WEa(c:UInt8):Bool:=YBa c || c==45 || c==95 || c==46 || c==43 || c==61
def ZQa:Bool->Str->Bool
 | p,[]=> !p
 | p,c::r=>if c=46 then !p && ZQa true r else ZQa false r
def domP(s:Str):Bool:=decide (s.length<=60) && s.all yEa && ZQa true s
def atP(s:Str):Nat:=s.findIdx (· ==64)
def qIa(s:Str):Bool:=decide (atP s < s.length) && decide (1<=atP s) && decide (atP s<=60) && (s.take (atP s)).all WEa && domP (s.drop (atP s+1))
theorem jEa(k:Nat)(c:UInt8)(hk:OfNat.ofNat k < 256):decide ((no_index (OfNat.ofNat k:Int))<=(c.toNat:Int))=decide ((OfNat.ofNat k:UInt8)<=c):=by
 have e:(OfNat.ofNat k:Int)=((OfNat.ofNat k:Nat):Int):=rfl;have h2:(OfNat.ofNat k:UInt8).toNat=(OfNat.ofNat k:Nat):=by
  show (UInt8.ofNat k).toNat=k;rw[UInt8.toNat_ofNat'];exact Nat.mod_eq_of_lt hk
 rw[Bool.eq_iff_iff,decide_eq_true_eq,decide_eq_true_eq,UInt8.le_iff_toNat_le,h2,e];omega
theorem jFa(k:Nat)(c:UInt8)(hk:OfNat.ofNat k < 256):decide ((c.toNat:Int)<=(no_index (OfNat.ofNat k:Int)))=decide (c<=(OfNat.ofNat k:UInt8)):=by
 have e:(OfNat.ofNat k:Int)=((OfNat.ofNat k:Nat):Int):=rfl;have h2:(OfNat.ofNat k:UInt8).toNat=(OfNat.ofNat k:Nat):=by
  show (UInt8.ofNat k).toNat=k;rw[UInt8.toNat_ofNat'];exact Nat.mod_eq_of_lt hk
 rw[Bool.eq_iff_iff,decide_eq_true_eq,decide_eq_true_eq,UInt8.le_iff_toNat_le,h2,e];omega
theorem vfa(a b c:Int):R_In a b c=some (decide (b<=a) && decide (a<=c)):=by
 unfold R_In;cases decide (b<=a) <;> rfl
theorem jGa(c:UInt8):qwa c=some (YBa c):=by
 unfold qwa YBa;simp only[vfa,Option.bind_some,jEa 97 c (by decide),jFa 122 c (by decide),jEa 65 c (by decide),jFa 90 c (by decide),jEa 48 c (by decide),jFa 57 c (by decide)];generalize (decide ((97:UInt8)<=c) && decide (c<=122))=x;generalize (decide ((65:UInt8)<=c) && decide (c<=90))=y;cases x <;> cases y <;> simp
theorem Kka(c:UInt8):wla c=some (YBa c):=by
 unfold wla YBa;simp only[jEa 97 c (by decide),jFa 122 c (by decide),jEa 65 c (by decide),jFa 90 c (by decide),jEa 48 c (by decide),jFa 57 c (by decide)];cases decide ((97:UInt8)<=c) <;> cases decide (c<=122) <;> cases decide ((65:UInt8)<=c) <;> cases decide (c<=90) <;> cases decide ((48:UInt8)<=c) <;> cases decide (c<=57) <;> rfl
def yya(s:Str)(i:Nat):Bool:=if i=0 then true else s[i - 1]? ==some 46
def w4a:Bool->Str->Bool
 | _,[]=>true
 | p,c::r=>if c=46 then !p && !r.isEmpty && w4a true r else yEa c && w4a false r
theorem kWb(p:Bool)(c:UInt8)(r:Str):w4a p (c::r)=if c=46 then !p && !r.isEmpty && w4a true r else yEa c && w4a false r:=rfl
theorem ycb(s:Str)(p:Bool)(h:s≠ []∨p=false):w4a p s=(s.all yEa && ZQa p s):=by
 induction s generalizing p with
 | nil=>simp[w4a,ZQa];rcases h with h | h <;> simp_all
 | cons c r ih=>
  unfold w4a ZQa;by_cases hc:c=46
  .subst hc;simp only[if_true,List.all_cons,show yEa 46=true by decide,Bool.true_and];cases r with
   | nil=>simp[ZQa]
   | cons d r=>
    rw[ih true (.inl (by simp))];cases p <;> simp
  rw[if_neg hc,if_neg hc];rw[ih false (.inr rfl),List.all_cons,Bool.and_assoc]
theorem YCa(s:Str)(hs:s.length<=9223372036854775806):iter (qQa s) 0=some (if w4a true s then .inl () else .inr false):=by
 have:=jxb (body:=qQa s) s (fun i (_:Unit)=>(i:Int)) (fun i r _=>if w4a (yya s i) r then .inl () else .inr false) (fun _=>by
  unfold qQa;rw[zMa];simp[w4a]) (fun p c r _ h=>?_) (s0:=0) () rfl
 .simpa[yya]using this
 have hc:s[p.length]? =some c:=by simp[h]
 have hidx:=zHa hc;have hlen:s.length=p.length+r.length+1:=by rw[h];simp;omega
 have e1:w64 ((s.length:Int) - 1)=((s.length - 1:Nat):Int):=by rw[q0a (by omega) (by omega)];omega
 have e2:w64 ((p.length:Int)+1)=((p.length+1:Nat):Int):=by rw[show ((p.length:Int)+1)=((p.length+1:Nat):Int) by omega,ZWa _ (by omega)]
 have hbody:qQa s (p.length:Int)=some (if c=46 then (if yya s p.length || r.isEmpty then .out (.inr false) else .cont ((p.length+1:Nat):Int)) else if yEa c then .cont ((p.length+1:Nat):Int) else .out (.inr false)):=by
  unfold qQa;rw[kia hc,hidx];simp only[cond_true,Option.bind_some,vfa,qWa c 46 (by decide),K6a c 45 (by decide),K6a c 46 (by decide),jEa 97 c (by decide),jFa 122 c (by decide),jEa 48 c (by decide),jFa 57 c (by decide),e1,e2];by_cases h46:c=46
  .subst h46;have hsm:(!(decide ((97:UInt8)<=46) && decide ((46:UInt8)<=122)))=true:=by decide
   have hsm2:(!(decide ((48:UInt8)<=46) && decide ((46:UInt8)<=57)))=true:=by decide
   simp only[beq_self_eq_true,cond_true,hsm,hsm2,if_true,bne_self_eq_false];by_cases h0:p.length=0
   .simp[h0,yya]
   have h0' :((p.length:Int)==0)=false:=by rw[beq_eq_false_iff_ne];omega
   by_cases hl:r=[]
   .subst hl;have:((p.length:Int)==((s.length - 1:Nat):Int))=true:=by rw[hlen];simp
    simp[h0',this]
   have hr:r.isEmpty=false:=by simpa using hl
   have hrl:0 < r.length:=List.length_pos_iff.2 hl;have:((p.length:Int)==((s.length - 1:Nat):Int))=false:=by rw[hlen];simp;omega
   have e3:w64 ((p.length:Int) - 1)=((p.length - 1:Nat):Int):=by rw[q0a (by omega) (by omega)];omega
   have hlt:p.length - 1 < s.length:=by omega
   simp only[h0',this,cond_false,e3,Kja hlt,Option.bind_some,hr,Bool.or_false,yya,if_neg h0,List.getElem?_eq_getElem hlt];rw[qWa _ 46 (by decide)];by_cases hd:s[p.length - 1]=46
   .simp[hd]
   have:(s[p.length - 1]==46)=false:=by simpa using hd
   simp[this,hd]
  have h1:(c==46)=false:=by simpa using h46
  have h2:(c !=46)=true:=by simpa using h46
  simp only[h1,cond_false,if_neg h46,Option.bind_some,yEa,h2];by_cases ha:(decide ((97:UInt8)<=c) && decide (c<=122))=true
  .simp[ha]
  have ha:(decide ((97:UInt8)<=c) && decide (c<=122))=false:=by simpa using ha
  by_cases hb:(decide ((48:UInt8)<=c) && decide (c<=57))=true
  .simp[ha,hb]
  have hb:(decide ((48:UInt8)<=c) && decide (c<=57))=false:=by simpa using hb
  by_cases h45:c=45
  .subst h45;simp[ha,hb]
  have:(c==45)=false:=by simpa using h45
  simp[ha,hb,this,bne]
 have hp1:yya s (p.length+1)=decide (c=46):=by
  unfold yya;simp only[Nat.add_sub_cancel,Nat.add_one_ne_zero,if_false,hc];rw[Bool.eq_iff_iff];simp
 rw[hbody];rw[kWb];by_cases h46:c=46
 .subst h46;simp only[if_true];cases hq:(yya s p.length || r.isEmpty) with
  | true=>
   left;simp only[if_true];have:(!yya s p.length && !r.isEmpty && w4a true r)=false:=by
    cases hp:yya s p.length <;> simp_all
   rw[this];rfl
  | false=>
   right;refine ⟨(),rfl,?_⟩;have h3:yya s p.length=false:=by cases hp:yya s p.length <;> simp_all
   have h4:r.isEmpty=false:=by cases hp:r.isEmpty <;> simp_all
   rw[h3,h4,hp1];simp
 simp only[if_neg h46];cases hq:yEa c with
 | true=>right;exact ⟨(),rfl,by rw[hp1];simp[h46]⟩
 | false=>left;simp
theorem zZb(s:Str)(hs:s.length<=9223372036854775806):j5a s=some (domP s):=by
 unfold j5a;rw[YCa s hs];by_cases hn:s=[]
 .subst hn;simp[w4a,vfa,domP,ZQa]
 rw[ycb s true (.inl hn)];have hpos:0 < s.length:=List.length_pos_iff.2 hn;unfold domP;cases h:(s.all yEa && ZQa true s) with
 | false=>
  rw[Bool.and_assoc,h];simp
 | true=>
  rw[Bool.and_assoc,h];simp only[if_true,Option.bind_some,vfa,Bool.and_true,Sum.elim_inl,Option.some.injEq];rw[Bool.eq_iff_iff];simp;omega
theorem jyb(s:Str)(hs:s.length<=9223372036854775806):kSb s=some ((atP s:Nat):Int):=by
 unfold kSb;rw[zIa s (fun i c=>if c==64 then some (i:Int) else none) (.inl ()) .inr]
 .simp only[Option.bind_some];have key:∀(r:Str) (n:Nat),(zEa (fun i (c:UInt8)=>if c==64 then some (i:Int) else none) n r).getD ((n+r.length:Nat):Int)=((n+r.findIdx (· ==64):Nat):Int):=by
   intro r;induction r with
   | nil=>intro n;simp[zEa]
   | cons c r ih=>
    intro n;unfold zEa;rw[List.findIdx_cons];cases hc:(c==64) with
    | true=>simp
    | false=>
     simp only[Bool.false_eq_true,if_false,cond_false];have:=ih (n+1);rw[show n+(c::r).length=n+1+r.length by simp;omega,show n+(r.findIdx (· ==64)+1)=n+1+r.findIdx (· ==64) by omega];exact this
  have:=key s 0;rw[Nat.zero_add,Nat.zero_add]at this;unfold atP;rw[<-this];cases zEa (fun i (c:UInt8)=>if c==64 then some (i:Int) else none) 0 s <;> rfl
 .unfold Vba;rw[zMa];rfl
 intro i c hc;unfold Vba;have hi:=zOa hc;rw[kia hc,zHa hc];simp only[cond_true,Option.bind_some,qWa c 64 (by decide)];cases c==64 with
 | true=>rfl
 | false=>
  simp only[cond_false,Bool.false_eq_true,if_false];rw[show ((i:Int)+1)=((i+1:Nat):Int) by omega,ZWa _ (by omega)];rfl
theorem yba(s:Str)(hs:s.length<=9223372036854775806):qia s=some (qIa s):=by
 have hat:atP s<=s.length:=List.findIdx_le_length;unfold qia;rw[jyb s hs];simp only[Option.bind_some];have hloop:iter (vOa s (atP s:Int)) 0=some ((zEa (fun _ c=>if !WEa c then some false else none) 0 (s.take (atP s))).elim (.inl ()) .inr):=by
  refine zIa (s.take (atP s)) _ (Sum.inl ()) Sum.inr ?_ ?_
  .have:((s.take (atP s)).length:Int)=(atP s:Int):=by simp;omega
   unfold vOa;rw[this];simp
  intro i c hc;have hi:=zOa hc;simp at hi;have hc2:s[i]? =some c:=by rw[List.getElem?_take_of_lt (by omega)]at hc;exact hc
  unfold vOa;have:decide ((i:Int) < (atP s:Int))=true:=by simp;omega
  rw[this,zHa hc2];simp only[cond_true,Option.bind_some,jGa,K6a c 45 (by decide),K6a c 95 (by decide),K6a c 46 (by decide),K6a c 43 (by decide),K6a c 61 (by decide)];rw[show ((i:Int)+1)=((i+1:Nat):Int) by omega,ZWa _ (by omega)];unfold WEa;cases YBa c <;> cases h1:(c==45) <;> cases h2:(c==95) <;> cases h3:(c==46) <;> cases h4:(c==43) <;> cases h5:(c==61) <;> simp[bne,h1,h2,h3,h4,h5]
 rw[hloop,Zja];unfold qIa;have hall:(s.take (atP s)).any (fun c=> !WEa c)= !((s.take (atP s)).all WEa):=by simp[List.not_all_eq_any_not]
 rw[hall];cases hg:(s.take (atP s)).all WEa with
 | false=>simp
 | true=>
  simp only[Bool.not_true,Bool.false_eq_true,if_false,Option.bind_some,vfa,Bool.and_true];by_cases h1:1<=atP s/\atP s<=60
  .have e1:(decide ((1:Int)<=(atP s:Int)) && decide ((atP s:Int)<=60))=true:=by simp;omega
   rw[e1];by_cases h2:atP s < s.length
   .have e2:decide ((atP s:Int) < (s.length:Int))=true:=by simp;omega
    rw[e2];simp only[cond_true];rw[show ((atP s:Int)+1)=((atP s+1:Nat):Int) by omega,ZWa _ (by omega),jna (by omega)];simp only[Option.bind_some];rw[zZb _ (by simp;omega)];simp[h1,h2]
   have e2:decide ((atP s:Int) < (s.length:Int))=false:=by simp;omega
   rw[e2];simp[h2]
  have e1:(decide ((1:Int)<=(atP s:Int)) && decide ((atP s:Int)<=60))=false:=by
   rw[Bool.eq_false_iff];simp;omega
  rw[e1];simp only[cond_false,Option.bind_some]
  congr 1
  symm
  rcases Nat.lt_or_ge (atP s) 1 with h | h
  .have:decide (1<=atP s)=false:=by simp;omega
   rw[this];simp
  have:decide (atP s<=60)=false:=by simp;omega
  rw[this];simp
theorem z0b(s:Str):∀p,ZQa p s=(!(p && (s.isEmpty || s.head? ==some 46)) && !(s.getLast? ==some 46) && !Lib.contains s [46,46]):=by
 induction s with
 | nil=>intro p;cases p <;> simp[ZQa,Lib.contains,Lib.index]
 | cons c r ih=>
  intro p;have hcont:Lib.contains (c::r) [46,46]=((c==46 && r.head? ==some 46) || Lib.contains r [46,46]):=by
   unfold Lib.contains;rw[Lib.index];have hpre:([46,46]:List UInt8).isPrefixOf (c::r)=(c==46 && r.head? ==some 46):=by
    cases r with
    | nil=>simp[List.isPrefixOf]
    | cons d r=>simp only[List.isPrefixOf,List.head?_cons,Bool.and_true];rw[Bool.eq_iff_iff];simp;constructor <;> rintro ⟨rfl,rfl⟩ <;> exact ⟨rfl,rfl⟩
   rw[hpre];have hg:=Lib.index_ge r [46,46];cases c==46 && r.head? ==some 46 with
   | true=>simp
   | false=>
    simp only[Bool.false_eq_true,if_false,Bool.false_or];by_cases h:Lib.index r [46,46]= -1
    .simp[h]
    have:(Lib.index r [46,46]== -1)=false:=by simpa using h
    rw[this];simp only[Bool.false_eq_true,if_false];rw[Bool.eq_iff_iff];simp;omega
  rw[hcont,ZQa];have hlast:(c::r).getLast? =if r.isEmpty then some c else r.getLast? :=by cases r <;> simp
  rw[hlast];by_cases hc:c=46
  .subst hc;rw[if_pos rfl,ih true];cases r with
   | nil=>simp
   | cons d r=>cases p <;> cases hd:(d==46) <;> simp_all [Bool.and_comm,Bool.and_assoc,Bool.and_left_comm]
  have h1:(c==46)=false:=by simpa using hc
  have h2:(some c==some (46:UInt8))=false:=by simpa using hc
  rw[if_neg hc,ih false];cases r with
  | nil=>simp[h1,h2,Lib.contains,Lib.index,hc]
  | cons d r=>simp[h1,h2,hc]
theorem K7a(s t:Str):kAa s t=some (t.isPrefixOf s):=by
 unfold kAa z3a;by_cases h:t.length<=s.length
 .have:decide ((t.length:Int)<=(s.length:Int))=true:=by simp;omega
  rw[this,Zga h];simp only[cond_true,Option.bind_some,Option.some.injEq];rw[Bool.eq_iff_iff,beq_iff_eq,List.isPrefixOf_iff_prefix,List.prefix_iff_eq_take];constructor <;> exact fun h=>h.symm
 have:decide ((t.length:Int)<=(s.length:Int))=false:=by simp;omega
 rw[this];simp only[cond_false,Option.bind_some,Option.some.injEq]
 symm
 rw[Bool.eq_false_iff];intro hp;exact h (List.isPrefixOf_iff_prefix.1 hp).length_le
theorem K8a(s t:Str)(hs:s.length<=9223372036854775806):kBa s t=some (t.isSuffixOf s):=by
 unfold kBa z4a;by_cases h:t.length<=s.length
 .have:decide ((t.length:Int)<=(s.length:Int))=true:=by simp;omega
  rw[this,jvb _ _ h (by omega),jna (by omega)];simp only[cond_true,Option.bind_some,Option.some.injEq];rw[Bool.eq_iff_iff,beq_iff_eq,List.isSuffixOf_iff_suffix,List.suffix_iff_eq_drop];constructor <;> exact fun h=>h.symm
 have:decide ((t.length:Int)<=(s.length:Int))=false:=by simp;omega
 rw[this];simp only[cond_false,Option.bind_some,Option.some.injEq]
 symm
 rw[Bool.eq_false_iff];intro hp;exact h (List.isSuffixOf_iff_suffix.1 hp).length_le
theorem dom_char(c:UInt8):((bif decide ((97:UInt8)<=c) then (bif decide (c<=122) then some true else (bif decide ((48:UInt8)<=c) then (bif decide (c<=57) then some true else (bif (c==45) then some true else some (c==46))) else (bif (c==45) then some true else some (c==46)))) else (bif decide ((48:UInt8)<=c) then (bif decide (c<=57) then some true else (bif (c==45) then some true else some (c==46))) else (bif (c==45) then some true else some (c==46)))):Option Bool)=some (yEa c):=by
 unfold yEa;cases decide ((97:UInt8)<=c) <;> cases decide (c<=122) <;> cases decide ((48:UInt8)<=c) <;> cases decide (c<=57) <;> cases (c==45) <;> rfl
theorem Vea(s:Str)(hs:s.length < 4294967281):vta s=some (domP s):=by
 have hloop:iter (qda s) 0=some ((zEa (fun _ c=>if !yEa c then some () else none) 0 s).elim (.inl ()) .inr):=by
  refine zIa s _ (Sum.inl ()) Sum.inr ?_ ?_
  .unfold qda;rw[zMa];rfl
  intro i c hc;have hi:=zOa hc;unfold qda;rw[kia hc,zHa hc];simp only[cond_true,Option.bind_some,qWa c 45 (by decide),qWa c 46 (by decide),jEa 97 c (by decide),jFa 122 c (by decide),jEa 48 c (by decide),jFa 57 c (by decide),dom_char];rw[show ((i:Int)+1)=((i+1:Nat):Int) by omega,ZWa _ (by omega)];cases yEa c <;> rfl
 unfold vta domP;rw[hloop,Zja,z0b];by_cases hn:s=[]
 .subst hn;simp
 have h1:(s !=([]:Str))=true:=by simpa using hn
 rw[h1];simp only[cond_true];by_cases hl:s.length<=60
 .have h2:decide ((s.length:Int)<=60)=true:=by simp;omega
  rw[h2];have hall:s.any (fun c=> !yEa c)= !(s.all yEa):=by simp[List.not_all_eq_any_not]
  rw[hall];cases hg:s.all yEa with
  | false=>simp[hl]
  | true=>
   simp only[Bool.not_true,Bool.false_eq_true,if_false,Option.elim,Option.bind_some,cond_true,K7a,K8a s [46] (by omega),kNa,if_pos hs];have hp:([46]:Str).isPrefixOf s=(s.head? ==some 46):=by
    cases s with
    | nil=>rfl
    | cons d r=>simp only[List.isPrefixOf,List.head?_cons,Bool.and_true];rw[Bool.eq_iff_iff];simp;exact ⟨fun h=>h.symm,fun h=>h.symm⟩
   have hsf:([46]:Str).isSuffixOf s=(s.getLast? ==some 46):=by
    rw[Bool.eq_iff_iff,List.isSuffixOf_iff_suffix,beq_iff_eq];constructor
    .rintro ⟨t,rfl⟩;simp
    intro h;obtain ⟨ys,rfl⟩:=List.getLast?_eq_some_iff.1 h;exact ⟨ys,rfl⟩
   have he:s.isEmpty=false:=by simpa using hn
   rw[hp,hsf,he];cases s.head? ==some 46 <;> cases s.getLast? ==some 46 <;> cases Lib.contains s [46,46] <;> simp[hl]
 have h2:decide ((s.length:Int)<=60)=false:=by simp;omega
 rw[h2];simp[hl]
theorem z1b(s:Str):Lib.index s [64]=if atP s < s.length then (atP s:Int) else -1:=by
 rw[Lib.index_one];unfold atP;induction s with
 | nil=>rfl
 | cons c r ih=>
  rw[Lib.indexByte,List.findIdx_cons];cases hc:(c==64) with
  | true=>simp
  | false=>
   simp only[Bool.false_eq_true,if_false,cond_false,List.length_cons];rw[ih];by_cases h:r.findIdx (· ==64) < r.length
   .simp only[if_pos h,if_pos (show r.findIdx (· ==64)+1 < r.length+1 by omega)];have:(((r.findIdx (· ==64):Nat):Int)== -1)=false:=by rw[beq_eq_false_iff_ne];omega
    rw[this];simp
   simp only[if_neg h,if_neg (show ¬(r.findIdx (· ==64)+1 < r.length+1) by omega)];simp
theorem cut_at(s:Str):Lib.cut s [64]=if atP s < s.length then (s.take (atP s),s.drop (atP s+1),true) else (s,[],false):=by
 unfold Lib.cut;rw[z1b];by_cases h:atP s < s.length
 .rw[if_pos h,if_pos h,if_pos (by omega)];simp
 rw[if_neg h,if_neg h,if_neg (by omega)]
def whb(s:Str):Str × Str × Bool:=if atP s < s.length then (s.take (atP s),s.drop (atP s+1),qIa s) else (s,[],false)
theorem jzb(c:UInt8):(YBa c || decide (0<=Lib.indexByte [45,95,46,43,61] c))=WEa c:=by
 unfold WEa;by_cases h1:c=45
 .subst h1;decide
 by_cases h2:c=95
 .subst h2;decide
 by_cases h3:c=46
 .subst h3;decide
 by_cases h4:c=43
 .subst h4;decide
 by_cases h5:c=61
 .subst h5;decide
 rw[beq_eq_false_iff_ne.2 h1,beq_eq_false_iff_ne.2 h2,beq_eq_false_iff_ne.2 h3,beq_eq_false_iff_ne.2 h4,beq_eq_false_iff_ne.2 h5];simp[Lib.indexByte,Ne.symm h1,Ne.symm h2,Ne.symm h3,Ne.symm h4,Ne.symm h5]
theorem VYa(s:Str)(hs:s.length < 4294967281):vPa s=some (whb s):=by
 have hloop:∀v:Str × Str × Bool,v.1.length < 4294967281->iter (qxa v) 0=some ((zEa (fun _ c=>if !WEa c then some () else none) 0 v.1).elim (.inl ()) .inr):=by
  intro v hv;refine zIa v.1 _ (Sum.inl ()) Sum.inr ?_ ?_
  .unfold qxa;rw[zMa];rfl
  intro i c hc;have hi:=zOa hc;unfold qxa;rw[kia hc,zHa hc];simp only[cond_true,Option.bind_some,Kka,zSa];rw[show ((i:Int)+1)=((i+1:Nat):Int) by omega,ZWa _ (by omega)];have hg:=jzb c;cases hl:YBa c with
  | true=>rw[hl]at hg;simp only[Bool.true_or]at hg;rw[<-hg];rfl
  | false=>rw[hl]at hg;simp only[Bool.false_or]at hg;rw[<-hg];cases decide (0<=Lib.indexByte [45,95,46,43,61] c) <;> rfl
 unfold vPa qRa;rw[if_pos hs,cut_at];simp only[Option.bind_some];unfold whb;by_cases h:atP s < s.length
 .simp only[if_pos h,cond_true];rw[hloop _ (by simp;omega),Zja];have hall:(s.take (atP s)).any (fun c=> !WEa c)= !((s.take (atP s)).all WEa):=by simp[List.not_all_eq_any_not]
  simp only[hall];have hlen:(s.take (atP s)).length=atP s:=by simp;omega
  rw[hlen,Vea _ (by simp;omega)];unfold qIa;by_cases h0:atP s=0
  .simp[h0]
  have hne:(s.take (atP s) !=([]:Str))=true:=by
   simp only[bne_iff_ne,ne_eq];intro hx;have:=congrArg List.length hx;rw[hlen]at this;simp at this;omega
  rw[hne];by_cases h60:atP s<=60
  .have e:decide ((atP s:Int)<=60)=true:=by simp;omega
   rw[e];cases (s.take (atP s)).all WEa <;> simp[h,h60] <;> omega
  have e:decide ((atP s:Int)<=60)=false:=by simp;omega
  rw[e];simp[h60]
 simp[if_neg h]
theorem vdb(s:Str):(whb s).2.2=qIa s:=by
 unfold whb;by_cases h:atP s < s.length
 .rw[if_pos h]
 rw[if_neg h];unfold qIa;simp[h]
theorem qYa(s:Str)(hs:s.length < 4294967281):kra s=some (qIa s):=by
 unfold kra;rw[VYa s hs];simp[vdb]
theorem Wpa(a b:List Str)(ha:a.length<=9223372036854775806):j6a a b=some (a==b):=by
 unfold j6a;by_cases hlen:a.length=b.length
 .have h1:((a.length:Int) !=(b.length:Int))=false:=by rw[hlen];simp
  rw[h1];simp only[cond_false];rw[zIa a (fun i x=>if b[i]? !=some x then some false else none) (.inl ()) .inr]
  .simp only[Option.bind_some];cases hf:zEa (fun i x=>if b[i]? !=some x then some false else none) 0 a with
   | none=>
    rw[qXa]at hf;have:a=b:=by
     apply List.ext_getElem?;intro i;by_cases hi:i < a.length
     .have:=hf i a[i] (List.getElem?_eq_getElem hi);rw[Nat.zero_add]at this;rw[List.getElem?_eq_getElem hi];simp at this;exact this.symm
     rw[List.getElem?_eq_none (by omega),List.getElem?_eq_none (by omega)]
    subst this;simp
   | some r=>
    obtain ⟨i,x,hx,hq⟩:=ZEa hf;rw[Nat.zero_add]at hq;split at hq
    .cases hq;rename_i hne;have:(a==b)=false:=by
      rw[beq_eq_false_iff_ne];rintro rfl;rw[hx]at hne;simp at hne
     rw[this];rfl
    cases hq
  .unfold jCa;rw[zMa];rfl
  intro i x hx;have hi:=zOa hx;unfold jCa;have hib:i < b.length:=by omega
  rw[kia hx,zHa hx,Kja hib,List.getElem?_eq_getElem hib];simp only[cond_true,Option.bind_some];rw[show ((i:Int)+1)=((i+1:Nat):Int) by omega,ZWa _ (by omega)];by_cases hxb:x=b[i]
  .subst hxb;simp
  have e1:(x !=b[i])=true:=by simpa using hxb
  have e2:(some b[i] !=some x)=true:=by simp;exact fun h=>hxb h.symm
  rw[e1,e2];rfl
 have h1:((a.length:Int) !=(b.length:Int))=true:=by simp;omega
 rw[h1];simp only[cond_true];have:(a==b)=false:=by rw[beq_eq_false_iff_ne];rintro rfl;exact hlen rfl
 rw[this]
section
theorem kXb{α:Type}(c:α->Bool)(l:List α):∀n:Nat,decide ((0:Int)<=(zEa (fun i x=>if c x then some ((i:Nat):Int) else none) n l).getD (-1))=l.any c:=by
 induction l with
 | nil=>intro n;rfl
 | cons x l ih=>
  intro n;unfold zEa;cases hc:c x with
  | true=>simp[hc]
  | false=>simp only[Bool.false_eq_true,if_false,List.any_cons,hc,Bool.false_or];exact ih (n+1)
theorem wib(o:Option Int):Sum.elim (fun _=>some (-1)) (fun b=>some b) (o.elim (Sum.inl ()) Sum.inr:Unit ⊕ Int)=some (o.getD (-1)):=by cases o <;> rfl
theorem sc(i:Nat)(h:i < 9223372036854775807):w64 ((i:Int)+1)=((i+1:Nat):Int):=by rw[show ((i:Int)+1)=((i+1:Nat):Int) by omega,ZWa _ (by omega)]
theorem bkL_pos{T:Type}(bk:T->Nat)(l:List T):1<=bkL bk l:=by
 induction l with
 | nil=>simp[bkL]
 | cons y l ih=>unfold bkL;omega
theorem bkL_mem{T:Type}{bk:T->Nat}{l:List T}{x:T}(h:x∈l):bk x+1<=bkL bk l:=by
 induction l with
 | nil=>cases h
 | cons y l ih=>
  unfold bkL;have hp:=bkL_pos bk l;rcases List.mem_cons.1 h with rfl | h
  .omega
  have:=ih h;omega
theorem z2b{T:Type}{bk:T->Nat}(hb:∀x,1<=bk x)(l:List T):l.length+1<=bkL bk l:=by
 induction l with
 | nil=>simp[bkL]
 | cons y l ih=>unfold bkL;have:=hb y;simp;omega
section
variable {α:Type}
end
theorem ydb{V:Type}(m:List (Str × V))(k:Str)(v:V)(x:Str):mget (mput m k v) x=if k==x then some v else mget m x:=by
 induction m with
 | nil=>rfl
 | cons p m ih=>
  obtain ⟨k',v'⟩:=p;unfold mput;by_cases h:k' =k
  .subst h;simp only[beq_self_eq_true,if_true,mget];cases k' ==x <;> simp
  have h1:(k' ==k)=false:=by simpa using h
  rw[h1];simp only[Bool.false_eq_true,if_false,mget];rw[ih];by_cases h2:k' =x
  .subst h2;have:(k==k')=false:=by simpa using fun h' =>h h'.symm
   simp[this]
  have:(k' ==x)=false:=by simpa using h2
  rw[this];simp
section
variable {α A S O:Type}
theorem z3b(l:List α)(enc:Int->S->A)(f:S->α->S)(out:S->O)(Inv:Nat->S->Prop){body:A->Option (Step A O)}
 (hl:∀s,Inv l.length s->body (enc l.length s)=some (.out (out s)))
 (hs:∀(i:Nat) x s,l[i]? =some x->Inv i s->body (enc i s)=some (.cont (enc ((i+1:Nat):Int) (f s x)))/\Inv (i+1) (f s x)):
 ∀(r p:List α) (s:S),l=p++r->Inv p.length s->iter body (enc (p.length:Int) s)=some (out (r.foldl f s)):=by
 intro r;induction r with
 | nil=>
  intro p s h hi;have:p=l:=by simp[h]
  subst this;exact zGa (hl s hi)
 | cons x r ih=>
  intro p s h hi;obtain ⟨h1,h2⟩:=hs p.length x s (by simp[h]) hi;rw[zNa h1];have:=ih (p++ [x]) (f s x) (by simp[h]) (by simpa using h2);simpa using this
end
end
theorem Qoa(o:Option Unit)(a b:Bool):Sum.elim (fun _=>some a) (fun _=>some b) (o.elim (Sum.inl ()) Sum.inr:Unit ⊕ Unit)=some (bif o.isSome then b else a):=by cases o <;> rfl
theorem ZFa{α R:Type}(c:α->Bool)(r:R)(l:List α)(n:Nat):(zEa (fun _ x=>if c x then some r else none) n l).isSome=l.any c:=by
 rw[Zja];cases l.any c <;> rfl
theorem z4b{α:Type}(l:List α)(p:α->Bool):l.any (fun x=> !p x)= !l.all p:=by simp[List.not_all_eq_any_not]
theorem jOa(a b:Int):R_At a b=some ⟨a,b⟩:=rfl
theorem kna(a b:Int):zAa a b=some ⟨a,b⟩:=rfl
theorem qga:kza=some ⟨0,0⟩:=rfl
theorem kea(f:zta):z2a f=some (f.Code !=0):=rfl
theorem VZa(o:Option zta)(f:zta):Sum.elim (fun _=>some f) (fun b=>some b) (o.elim (Sum.inl ()) Sum.inr:Unit ⊕ zta)=some (o.getD f):=by cases o <;> rfl
def veb(c:UInt8):Bool:=YBa c || c==45 || c==95 || c==46
def ZXa(s:Str):Bool:=decide (1<=s.length) && decide (s.length<=60) && s.all veb
theorem QFa(s:Str)(hs:s.length<=1048576):ZBa s=some (ZXa s):=by
 unfold ZBa;rw[zIa s (fun _ c=>if !veb c then some false else none) (.inl ()) .inr,Zja,z4b]
 .simp only[Option.bind_some,vfa];unfold ZXa;have e1:decide ((1:Int)<=(s.length:Int))=decide (1<=s.length):=by rw[Bool.eq_iff_iff];simp;omega
  have e2:decide ((s.length:Int)<=60)=decide (s.length<=60):=by rw[Bool.eq_iff_iff];simp;omega
  rw[<-e1,<-e2];cases s.all veb <;> simp
 .unfold ZAa;rw[zMa];rfl
 intro i c hc;have hi:=zOa hc;unfold ZAa;rw[kia hc,zHa hc];simp only[cond_true,Option.bind_some,jGa,K6a c 45 (by decide),K6a c 95 (by decide),K6a c 46 (by decide),sc i (by omega)];unfold veb bne;cases YBa c <;> cases (c==45) <;> cases (c==95) <;> cases (c==46) <;> rfl
theorem Vfa(s:Str)(hs:s.length<=1048576):yQa s=some (ZXa s):=by
 have hloop:iter (wya s) 0=some ((zEa (fun _ c=>if !veb c then some () else none) 0 s).elim (.inl ()) .inr):=by
  refine zIa s _ (Sum.inl ()) Sum.inr ?_ ?_
  .unfold wya;rw[zMa];rfl
  intro i c hc;have hi:=zOa hc;unfold wya;rw[kia hc,zHa hc];simp only[cond_true,Option.bind_some,Kka,qWa c 45 (by decide),qWa c 95 (by decide),qWa c 46 (by decide),sc i (by omega)];unfold veb;cases YBa c <;> cases (c==45) <;> cases (c==95) <;> cases (c==46) <;> rfl
 unfold yQa ZXa;rw[hloop];simp only[Option.bind_some,Qoa,ZFa,z4b];by_cases hn:s=[]
 .subst hn;rfl
 have h1:(s !=([]:Str))=true:=by simpa using hn
 have h2:decide (1<=s.length)=true:=by have:=List.length_pos_iff.2 hn;simp;omega
 have e2:decide ((s.length:Int)<=60)=decide (s.length<=60):=by rw[Bool.eq_iff_iff];simp;omega
 rw[h1,h2,e2];cases decide (s.length<=60) <;> cases s.all veb <;> rfl
def qKa(n:Int):Bool:=decide (0<=n) && decide (n<=7)
def recQ(l:List zca)(i:Nat)(r:zca):Option zta:=
 if !qIa r.Address then some ⟨10,i⟩ else if !qKa r.Notify then some ⟨3,i⟩ else if (l.take i).any (fun x=>x.Address==r.Address) then some ⟨7,i⟩ else none
def recF(l:List zca):zta:=(zEa (recQ l) 0 l).getD ⟨0,0⟩
def fromB(s:Str):Bool:=s !=([]:Str) && !qIa s
def envF(e:zKa):zta:=if fromB e.From then ⟨10, -10⟩ else if decide (e.To.length < 1) || decide (60 < e.To.length) then ⟨2, -11⟩ else if e.Id !=([]:Str) && !ZXa e.Id then ⟨10, -12⟩ else recF e.To
def J1a(l:List zca):Prop:=l.length<=1048576/\∀a∈l,a.Address.length<=1048576
def smallE(e:zKa):Prop:=e.From.length<=1048576/\e.Id.length<=1048576/\J1a e.To
theorem J2a(l:List zca)(s:Str)(hl:l.length<=1048576):VXa l s=some ((zEa (fun i x=>if x.Address==s then some ((i:Nat):Int) else none) 0 l).getD (-1)):=by
 unfold VXa;rw[zIa l (fun i x=>if x.Address==s then some ((i:Nat):Int) else none) (.inl ()) .inr]
 .simp only[Option.bind_some,wib]
 .unfold KTa;rw[zMa];rfl
 intro i x hx;have hi:=zOa hx;unfold KTa;rw[kia hx,zHa hx];simp only[cond_true,Option.bind_some,sc i (by omega)];cases x.Address==s <;> rfl
theorem wHa(n:Int):k2a n=some (qKa n):=by unfold k2a qKa;cases decide (0<=n) <;> rfl
theorem wjb(l:List zca)(i:Nat)(s:Str)(hl:l.length<=1048576):decide ((0:Int)<=(zEa (fun i x=>if x.Address==s then some ((i:Nat):Int) else none) 0 (l.take i)).getD (-1))=(l.take i).any (fun x=>x.Address==s):=kXb (fun x=>x.Address==s) (l.take i) 0
theorem Vga(e:zKa)(h:smallE e):vua e=some (envF e):=by
 obtain ⟨h1,h2,h3,h4⟩:=h;unfold vua envF;rw[yba _ (by omega),QFa _ h2];have hloop:iter (qea e) 0=some ((zEa (recQ e.To) 0 e.To).elim (.inl ()) .inr):=by
  refine zIa e.To _ (Sum.inl ()) Sum.inr ?_ ?_
  .unfold qea;rw[zMa];rfl
  intro i r hr;have hi:=zOa hr;have ha:=h4 r (List.mem_of_getElem? hr);unfold qea recQ;rw[kia hr,zHa hr];simp only[cond_true,Option.bind_some,yba _ (show r.Address.length<=9223372036854775806 by omega),jOa,vfa,Zga (Nat.le_of_lt hi),J2a _ _ (show (e.To.take i).length<=1048576 by simp;omega),wjb _ _ _ h3,sc i (by omega)];unfold qKa;cases qIa r.Address <;> cases (decide (0<=r.Notify) && decide (r.Notify<=7)) <;> cases (e.To.take i).any (fun x=>x.Address==r.Address) <;> rfl
 rw[hloop];simp only[Option.bind_some,VZa,vfa,jOa];have e1:(!(decide ((1:Int)<=(e.To.length:Int)) && decide ((e.To.length:Int)<=60)))=(decide (e.To.length < 1) || decide (60 < e.To.length)):=by generalize e.To.length=n;rw[Bool.eq_iff_iff];simp;omega
 rw[e1];unfold fromB recF;cases e.From !=([]:Str) <;> cases qIa e.From <;> cases (decide (e.To.length < 1) || decide (60 < e.To.length)) <;> cases e.Id !=([]:Str) <;> cases ZXa e.Id <;> rfl
theorem ZYa(l:List zca)(h:J1a l):kCa l=some (recF l):=by
 obtain ⟨h3,h4⟩:=h;unfold kCa recF;rw[zIa l (recQ l) (.inl ()) .inr]
 .simp only[Option.bind_some,qga,VZa]
 .unfold k8a;rw[zMa];rfl
 intro i r hr;have hi:=zOa hr;have ha:=h4 r (List.mem_of_getElem? hr);have hl2:iter (kwa r (l.take i)) 0=some ((zEa (fun i x=>if x.Address==r.Address then some ((i:Nat):Int) else none) 0 (l.take i)).elim (.inl ()) .inr):=by
  refine zIa (l.take i) _ (Sum.inl ()) Sum.inr ?_ ?_
  .unfold kwa;rw[zMa];rfl
  intro k x hx;have hk:=zOa hx;simp at hk;unfold kwa;rw[kia hx,zHa hx];simp only[cond_true,Option.bind_some,sc k (by omega)];cases x.Address==r.Address <;> rfl
 unfold k8a recQ;rw[kia hr,zHa hr];simp only[cond_true,Option.bind_some,qYa _ (show r.Address.length < 4294967281 by omega),kna,wHa,Zga (Nat.le_of_lt hi),hl2,wib,wjb _ _ _ h3,sc i (by omega)];cases qIa r.Address <;> cases qKa r.Notify <;> cases (l.take i).any (fun x=>x.Address==r.Address) <;> rfl
theorem jAb{l:List zca}(h:bkL zca.bk l<=1048576):J1a l:=by
 refine ⟨?_,fun a ha=>?_⟩
 .have:=z2b (bk:=zca.bk) (fun x=>by unfold zca.bk;omega) l;omega
 have h5:=bkL_mem (bk:=zca.bk) ha;have h6:zca.bk a=a.Address.length+1+1+1:=rfl;omega
theorem z5b(s:Str)(i:Nat)(h:i < s.length):(strB s)[i]'(by rw[zJa];exact h)=s[i]:=rfl
theorem jBb(s:Str)(i:Nat)(h:i < s.length):(strB s).get! i=s[i]:=by
 have:=get_at (strB s) i (by rw[zJa];exact h);rw[Nat.add_zero]at this;rw[this];rfl
theorem J3a{s:Str}{i:Nat}{c:UInt8}(h:s[i]? =some c)(hc:c.toNat < 128):Qma s i=(c.toNat:Int)/\j0a s i=1:=by
 have hi:=zOa h;have e:s[i]=c:=by rw[List.getElem?_eq_getElem hi]at h;exact Option.some.inj h
 have hd:=decode_ascii (strB s) i (by rw[zJa];exact hi) (by rw[z5b s i hi,e];exact hc);unfold Qma j0a;rw[hd,z5b s i hi,e];exact ⟨rfl,rfl⟩
theorem jCb{s:Str}{i:Nat}{c:UInt8}(h:s[i]? =some c)(hc:128<=c.toNat):128<=Qma s i/\Qma s i<=2147483647/\1<=j0a s i:=by
 have hi:=zOa h;have e:s[i]=c:=by rw[List.getElem?_eq_getElem hi]at h;exact Option.some.inj h
 have hd:=decode_high (strB s) i (by rw[zJa];exact hi) (by rw[z5b s i hi,e];exact hc);have hl:=decode_le (strB s) i;unfold Qma j0a;exact ⟨by omega,by omega,hd.2⟩
theorem vfb(s:ByteArray)(pos:Nat):∀k,1<=k->k < (Utf8.decode s pos).2->(s.get! (pos+k)).toNat / 64=2:=by
 intro k h1 h2;simp only[Utf8.decode]at h2;repeat' split at h2
 all_goals first
  | (exfalso;simp at h2;omega)
  | (
   rename_i hq _;simp only[Bool.and_eq_true,decide_eq_true_eq,beq_iff_eq]at hq;have h2:k < 2:=h2;obtain rfl:k=1:=by omega
   exact hq.2.2)
  | (
   rename_i hq _;simp only[Bool.and_eq_true,decide_eq_true_eq,beq_iff_eq]at hq;have h2:k < 3:=h2;have:k=1∨k=2:=by omega
   rcases this with rfl | rfl
   .exact hq.1.2.2
   exact hq.2.2)
  | (
   rename_i hq _;simp only[Bool.and_eq_true,decide_eq_true_eq,beq_iff_eq]at hq;have h2:k < 4:=h2;have:k=1∨k=2∨k=3:=by omega
   rcases this with rfl | rfl | rfl
   .exact hq.1.1.2.2
   .exact hq.1.2.2
   exact hq.2.2)
theorem jDb{s:Str}{i j:Nat}{c d:UInt8}(h:s[i]? =some c)(hc:128<=c.toNat)(h1:i<=j)(h2:j < i+j0a s i)(hj:s[j]? =some d):128<=d.toNat:=by
 by_cases e:j=i
 .subst e;rw[h]at hj;cases hj;exact hc
 have hjl:=zOa hj;have e2:s[j]=d:=by rw[List.getElem?_eq_getElem hjl]at hj;exact Option.some.inj hj
 have:=vfb (strB s) i (j - i) (by omega) (by unfold j0a at h2;omega);rw[show i+(j - i)=j by omega,jBb s j hjl,e2]at this;omega
theorem toU8_nat(c:UInt8):toU8 (c.toNat:Int)=c:=by
 unfold toU8;have:=c.toNat_lt;rw[show ((c.toNat:Int) % 256).toNat=c.toNat by omega];simp
theorem J4a{t:Str}(h:JZa t=true){c:UInt8}(hc:c∈t):c.toNat < 128:=by
 unfold JZa at h;rw[List.all_eq_true]at h;simpa using h c hc
theorem yeb{r:Int}(h:128<=r):∃m x,1<=m/\m<=3/\(yea r).length=m+1/\(yea r)[m]? =some x/\128<=x.toNat:=by
 unfold yea;simp only[Utf8.encode];have hc:128<=(if Utf8.valid r=true then r.toNat else Utf8.runeError):=by
  split
  .omega
  decide
 generalize (if Utf8.valid r=true then r.toNat else Utf8.runeError)=c at hc;have hb:∀n:Nat,128<=(UInt8.ofNat (128+n % 64)).toNat:=by
  intro n;rw[UInt8.toNat_ofNat'];have:(128+n % 64) % 2 ^ 8=128+n % 64:=Nat.mod_eq_of_lt (by omega);rw[this];omega
 rw[if_neg (by omega)];split
 .exact ⟨1,_,by omega,by omega,rfl,rfl,hb c⟩
 split
 .exact ⟨2,_,by omega,by omega,rfl,rfl,hb c⟩
 exact ⟨3,_,by omega,by omega,rfl,rfl,hb c⟩
theorem Jza{t:Str}(h:∀c∈t,c.toNat < 128){x:UInt8}(hx:128<=x.toNat):Lib.indexByte t x= -1:=by
 have hc:=Lib.contains_iff_indexByte t x;have hn:t.contains x=false:=by
  rw[Bool.eq_false_iff];intro hm;have:=h x (by simpa using hm);omega
 rw[hn]at hc;have hge:=Lib.indexByte_ge t x;have:=of_decide_eq_false hc.symm;omega
theorem YDa(t:Str)(c:UInt8)(hc:c.toNat < 128):kka t (c.toNat:Int)=some (Lib.indexByte t c):=by
 unfold kka;have h1:decide ((0:Int)<=(c.toNat:Int))=true:=by simp
 have h2:decide ((c.toNat:Int) < 128)=true:=by simp;omega
 rw[h1,h2];simp only[cond_true,Option.bind_some,toU8_nat];rfl
theorem JAa(t:Str)(r:Int)(hr:128<=r)(ht:∀c∈t,c.toNat < 128)(hl:t.length<=4294967281):kka t r=some (-1):=by
 unfold kka;have h1:decide ((0:Int)<=r)=true:=by simp;omega
 have h2:decide (r < 128)=false:=by simp;omega
 rw[h1,h2];simp only[cond_true,cond_false,Option.bind_some];cases hq:r==65533 with
 | true=>
  simp only[cond_true];obtain ⟨o,ho,rfl⟩:=W4a (body:=qpa t) (fun i=>i<=t.length) (fun i=>t.length - i) (fun _ o=>o=.inl ()) (fun i hi=>by
   unfold qpa;by_cases hlt:i < t.length
   .right;have hg:t[i]? =some t[i]:=List.getElem?_eq_getElem hlt;have hc:=ht t[i] (List.getElem_mem hlt);obtain ⟨e1,e2⟩:=J3a hg hc;rw[e1,e2,decide_eq_true hlt];have hne:((t[i].toNat:Int)==65533)=false:=by rw[beq_eq_false_iff_ne];omega
    rw[hne];exact ⟨i+1,rfl,by omega,by omega,fun _ h=>h⟩
   left;rw[decide_eq_false hlt];exact ⟨.inl (),rfl,rfl⟩) 0 (Nat.zero_le _)
  rw[ho];rfl
 | false=>
  simp only[cond_false];have hv:∃b,kva r=some b:=by
   unfold kva;cases decide (0<=r) <;> cases decide (r < 55296) <;> cases decide (57343 < r) <;> cases decide (r<=1114111) <;> exact ⟨_,rfl⟩
  obtain ⟨b,hb⟩:=hv;rw[hb];simp only[Option.bind_some];cases b with
  | false=>rfl
  | true=>
   simp only[Bool.not_true,cond_false];obtain ⟨m,x,hm1,hm3,hlen,hx,hx128⟩:=yeb hr;have hst:w64 (((yea r).length:Int) - 1)=(m:Int):=by rw[hlen,q0a (by omega) (by omega)];omega
   rw[hst];have hbody:∃o,qra t r (m:Int)=some (.out o)/\(o=.inl ()∨o=.inr (-1)):=by
    unfold qra;by_cases hlt:m < t.length
    .have hd:decide ((m:Int) < (t.length:Int))=true:=by simp;omega
     have hc:=ht t[m] (List.getElem_mem hlt);rw[hd,hst,Kja hlt,zHa hx];have hne:((t[m].toNat:Int) !=(x.toNat:Int))=true:=by simp;omega
     simp only[cond_true,Option.bind_some,hne];rw[show (m:Int)+1=((m+1:Nat):Int) by omega,ZWa _ (by omega),jna (by omega)];simp only[Option.bind_some];have hib:zSa (t.drop (m+1)) x=some (-1):=by
      show some (Lib.indexByte (t.drop (m+1)) x)=_;rw[Jza (fun c hc=>ht c (List.mem_of_mem_drop hc)) hx128]
     rw[hib];exact ⟨.inr (-1),rfl,.inr rfl⟩
    have hd:decide ((m:Int) < (t.length:Int))=false:=by simp;omega
    rw[hd];exact ⟨.inl (),rfl,.inl rfl⟩
   obtain ⟨o,ho,ho2⟩:=hbody;rw[zGa ho];rcases ho2 with rfl | rfl <;> rfl
theorem kYb(s t:Str)(h8:s.length<=8)(h2:2<=t.length)(hl:t.length < 4294967281)(ht:JZa t=true):vHa s t=some (Lib.indexAny s t):=by
 have htc:∀c∈t,c.toNat < 128:=fun c hc=>J4a ht hc
 unfold vHa;have e1:(t==([]:Str))=false:=by rw[beq_eq_false_iff_ne];rintro rfl;simp at h2
 have e2:((t.length:Int)==1)=false:=by rw[beq_eq_false_iff_ne];omega
 have e3:zLa (s.length:Int)=some false:=by unfold zLa;simp;omega
 rw[e1,e2,e3];simp only[cond_false,Option.bind_some];obtain ⟨o,ho,ho2⟩:=W4a (body:=qsa s t) (fun i=>Lib.NoAny s t i) (fun i=>s.length - i) (fun _ o=>Sum.elim (fun _=>some (-1)) (fun b=>some b) o=some (Lib.indexAny s t)) (fun i hi=>by
  unfold qsa;by_cases hlt:i < s.length
  .have hg:s[i]? =some s[i]:=List.getElem?_eq_getElem hlt;rw[decide_eq_true hlt];simp only[cond_true];by_cases hc:s[i].toNat < 128
   .obtain ⟨q1,q2⟩:=J3a hg hc;rw[q1,q2,YDa t _ hc];simp only[Option.bind_some];have hcon:=Lib.contains_iff_indexByte t s[i];rw[<-hcon];cases hin:t.contains s[i] with
    | true=>
     left;exact ⟨.inr (i:Int),rfl,by rw[Lib.indexAny_hit hi hg hin];rfl⟩
    | false=>
     right;exact ⟨i+1,rfl,hi.succ hg hin,by omega,fun _ h=>h⟩
   have hc:128<=s[i].toNat:=by omega
   obtain ⟨q1,q2,q3⟩:=jCb hg hc;rw[JAa t _ q1 htc (by omega)];right;refine ⟨i+j0a s i,rfl,fun j b hj hb=>?_,by omega,fun _ h=>h⟩;by_cases hji:j < i
   .exact hi j b hji hb
   have:=jDb hg hc (by omega) hj hb;rw[Bool.eq_false_iff];intro hm;have:=htc b (by simpa using hm);omega
  left;rw[decide_eq_false hlt];refine ⟨.inl (),rfl,?_⟩;have hn:Lib.NoAny s t s.length:=fun j b hj hb=>hi j b (by omega) hb
  rw[Lib.indexAny_none hn];rfl) 0 (Lib.NoAny.zero s t)
 rw[ho];exact ho2
theorem kZb(t:Str):∀s:Str,decide (0<=Lib.indexAny s t)=s.any fun c=>t.contains c:=by
 intro s;induction s with
 | nil=>rfl
 | cons c s ih=>
  have hge:=Lib.indexAny_ge t s;rw[List.any_cons,<-ih,Lib.indexAny];cases t.contains c with
  | true=>simp
  | false=>
   simp only[Bool.false_eq_true,if_false,Bool.false_or];by_cases h:Lib.indexAny s t= -1
   .simp[h]
   have:(Lib.indexAny s t== -1)=false:=by simpa using h
   rw[this];simp only[Bool.false_eq_true,if_false];rw[Bool.eq_iff_iff];simp;omega
theorem ZZa(s t:Str)(hs:s.length<=1048576)(h2:2<=t.length)(hl:t.length<=1048576)(ht:JZa t=true):kja s t=some (s.any fun c=>t.contains c):=by
 unfold kja qaa;rw[if_pos ⟨by omega,by omega,h2,ht⟩];simp only[Option.bind_some,kZb]
def zQa(c:UInt8):Bool:=c==32 || c==9
theorem yTa(c:UInt8):vea c=some (zQa c):=by
 unfold vea zQa;rw[qWa c 32 (by decide),qWa c 9 (by decide)];cases c==32 <;> rfl
theorem jPa(c:UInt8):qTa c=some (zQa c):=by
 unfold qTa zQa;rw[qWa c 32 (by decide),qWa c 9 (by decide)];cases c==32 <;> rfl
def fnC(c:UInt8):Bool:=decide (33<=c) && decide (c<=126) && c !=58
def fnP(s:Str):Bool:=s !=([]:Str) && decide (s.length<=60) && s.all fnC
theorem dec60(s:Str):decide ((s.length:Int)<=60)=decide (s.length<=60):=by generalize s.length=n;rw[Bool.eq_iff_iff];simp;omega
theorem k0b(s:Str)(hs:s.length<=1048576):Kda s=some (fnP s):=by
 have hloop:iter (yfa s) 0=some ((zEa (fun _ c=>if !fnC c then some () else none) 0 s).elim (.inl ()) .inr):=by
  refine zIa s _ (Sum.inl ()) Sum.inr ?_ ?_
  .unfold yfa;rw[zMa];rfl
  intro i c hc;have hi:=zOa hc;unfold yfa;rw[kia hc,zHa hc];simp only[cond_true,Option.bind_some,K6a c 58 (by decide),jEa 33 c (by decide),jFa 126 c (by decide),sc i (by omega)];unfold fnC;cases decide ((33:UInt8)<=c) <;> cases decide (c<=126) <;> cases c !=58 <;> rfl
 unfold Kda fnP;rw[hloop];simp only[Option.bind_some,Qoa,ZFa,z4b,dec60];cases s !=([]:Str) <;> cases decide (s.length<=60) <;> cases s.all fnC <;> rfl
def endC(c:UInt8):Bool:=c==13 || c==10 || c==0
theorem k1b(s:Str)(hs:s.length<=1048576):Kea s=some (s.any endC):=by
 unfold Kea;rw[ZZa s _ hs (by decide) (by decide) (by decide)];simp only[Option.bind_some,Option.some.injEq]
 congr 1
 funext c;rw[Bool.eq_iff_iff];simp[endC,or_assoc]
def jEb(s:Str):Bool:=match s.head?,s.getLast? with | some a,some b=>zQa a || zQa b | _,_=>false
def valP(s:Str):Bool:= !(s.any endC) && !(jEb s)
theorem wkb(s:Str)(h:s≠ [])(hs:s.length<=1048576):∃a b,idx s 0=some a/\idx s (w64 ((s.length:Int) - 1))=some b/\s.head? =some a/\s.getLast? =some b:=by
 have hpos:=List.length_pos_iff.2 h;obtain ⟨a,r,rfl⟩:=List.exists_cons_of_ne_nil h;have e:w64 (((a::r).length:Int) - 1)=((r.length:Nat):Int):=by
  have hl:(a::r).length=r.length+1:=rfl;rw[q0a (by omega) (by omega)];omega
 refine ⟨a,(a::r).getLast h,rfl,?_,rfl,List.getLast?_eq_some_getLast h⟩;rw[e,w3a,List.getLast_eq_getElem h,List.getElem?_eq_getElem (by simp)]
 congr 2
theorem z6b(s:Str)(hs:s.length<=1048576):j7a s=some (valP s):=by
 unfold j7a valP;rw[k1b s hs];simp only[Option.bind_some];by_cases hn:s=[]
 .subst hn;rfl
 obtain ⟨a,b,h1,h2,h3,h4⟩:=wkb s hn hs;have e:(s==([]:Str))=false:=by simpa using hn
 unfold jEb;rw[h1,h2,h3,h4,e];simp only[Option.bind_some,jPa,cond_false];cases s.any endC <;> cases zQa a <;> cases zQa b <;> rfl
def br(t:Str)(f i:Nat):Bool:=decide (1<=i) && decide (f<=i) && (match t[i]?,t[i - 1]? with | some a,some b=>zQa a && !zQa b | _,_=>false)
def V0a(t:Str)(f:Nat):Nat->Nat
 | 0=>0
 | i+1=>if br t f (i+1) then i+1 else V0a t f i
def z7b(t:Str)(f:Nat):Nat->Nat->Nat
 | 0,_=>0
 | n+1,i=>if br t f i then i else z7b t f n (i+1)
def cutP(t:Str)(f:Nat):Nat:=if V0a t f 78=0 then z7b t f (t.length - 79) 79 else V0a t f 78
def vgb(t:Str)(f c:Nat):Prop:=(c=0/\∀j,br t f j=false)∨(br t f c=true/\((c<=78/\∀j,c < j->j<=78->br t f j=false)∨(78 < c/\∀j,j < c->br t f j=false)))
theorem jFb(t:Str)(f:Nat):br t f 0=false:=rfl
theorem vhb{t:Str}{f i:Nat}(h:br t f i=true):i < t.length/\1<=i/\f<=i:=by
 unfold br at h;simp only[Bool.and_eq_true,decide_eq_true_eq]at h;obtain ⟨⟨h1,h2⟩,h3⟩:=h;refine ⟨?_,h1,h2⟩;cases hi:t[i]? with
 | none=>rw[hi]at h3;simp at h3
 | some a=>exact zOa hi
theorem k2b{t:Str}{f c d:Nat}(h:vgb t f c)(k:vgb t f d):c=d:=by
 rcases h with ⟨rfl,h⟩ | ⟨hc,h⟩ <;> rcases k with ⟨rfl,k⟩ | ⟨hd,k⟩
 .rfl
 .rw[h]at hd;cases hd
 .rw[k]at hc;cases hc
 rcases Nat.lt_trichotomy c d with hlt | heq | hgt
 .exfalso;rcases h with ⟨h1,h2⟩ | ⟨h1,h2⟩ <;> rcases k with ⟨k1,k2⟩ | ⟨k1,k2⟩
  .rw[h2 d hlt k1]at hd;cases hd
  .rw[k2 c hlt]at hc;cases hc
  .omega
  rw[k2 c hlt]at hc;cases hc
 .exact heq
 exfalso;rcases h with ⟨h1,h2⟩ | ⟨h1,h2⟩ <;> rcases k with ⟨k1,k2⟩ | ⟨k1,k2⟩
 .rw[k2 c hgt h1]at hc;cases hc
 .omega
 .rw[h2 d hgt]at hd;cases hd
 rw[h2 d hgt]at hd;cases hd
theorem yfb(t:Str)(f:Nat):∀n,(V0a t f n=0/\∀j,j<=n->br t f j=false)∨(br t f (V0a t f n)=true/\V0a t f n<=n/\∀j,V0a t f n < j->j<=n->br t f j=false):=by
 intro n;induction n with
 | zero=>left;exact ⟨rfl,fun j hj=>by
  obtain rfl:j=0:=by omega
  exact jFb t f⟩
 | succ n ih=>
  unfold V0a;by_cases h:br t f (n+1)=true
  .rw[if_pos h];right;exact ⟨h,Nat.le_refl _,fun j h1 h2=>by omega⟩
  rw[if_neg h];rcases ih with ⟨h1,h2⟩ | ⟨h1,h2,h3⟩
  .left;refine ⟨h1,fun j hj=>?_⟩;by_cases e:j=n+1
   .subst e;simpa using h
   exact h2 j (by omega)
  right;refine ⟨h1,by omega,fun j hj hjn=>?_⟩;by_cases e:j=n+1
  .subst e;simpa using h
  exact h3 j hj (by omega)
theorem ygb(t:Str)(f:Nat):∀n i,(z7b t f n i=0/\∀j,i<=j->j < i+n->br t f j=false)∨(br t f (z7b t f n i)=true/\i<=z7b t f n i/\∀j,i<=j->j < z7b t f n i->br t f j=false):=by
 intro n;induction n with
 | zero=>intro i;left;exact ⟨rfl,fun j h1 h2=>by omega⟩
 | succ n ih=>
  intro i;unfold z7b;by_cases h:br t f i=true
  .rw[if_pos h];right;exact ⟨h,Nat.le_refl _,fun j h1 h2=>by omega⟩
  rw[if_neg h];have hb:br t f i=false:=by simpa using h
  rcases ih (i+1) with ⟨h1,h2⟩ | ⟨h1,h2,h3⟩
  .left;refine ⟨h1,fun j hj hjn=>?_⟩;by_cases e:j=i
   .subst e;exact hb
   exact h2 j (by omega) (by omega)
  right;refine ⟨h1,by omega,fun j hj hjn=>?_⟩;by_cases e:j=i
  .subst e;exact hb
  exact h3 j (by omega) hjn
theorem jGb(t:Str)(f:Nat):vgb t f (cutP t f):=by
 unfold cutP;rcases yfb t f 78 with ⟨h1,h2⟩ | ⟨h1,h2,h3⟩
 .rw[if_pos h1];rcases ygb t f (t.length - 79) 79 with ⟨k1,k2⟩ | ⟨k1,k2,k3⟩
  .left;refine ⟨k1,fun j=>?_⟩;by_cases hj:j<=78
   .exact h2 j hj
   cases hb:br t f j with
   | false=>rfl
   | true=>have:=(vhb hb).1;rw[k2 j (by omega) (by omega)]at hb;cases hb
  right;refine ⟨k1,.inr ⟨by omega,fun j hj=>?_⟩⟩;by_cases hj2:j<=78
  .exact h2 j hj2
  exact k3 j (by omega) hj
 have hne:V0a t f 78≠0:=by intro h;rw[h,jFb]at h1;cases h1
 rw[if_neg hne];exact .inr ⟨h1,.inl ⟨h2,h3⟩⟩
theorem KXa{t:Str}{f:Nat}(h:cutP t f≠0):1<=cutP t f/\cutP t f < t.length:=by
 rcases jGb t f with ⟨h1,_⟩ | ⟨h1,_⟩
 .exact absurd h1 h
 exact ⟨(vhb h1).2.1,(vhb h1).1⟩
theorem br_at{t:Str}{f i:Nat}(h1:1<=i)(hi:i < t.length):br t f i=(decide (f<=i) && (zQa t[i] && !zQa (t[i - 1]'(by omega)))):=by
 unfold br;rw[List.getElem?_eq_getElem hi,List.getElem?_eq_getElem (show i - 1 < t.length by omega)];simp[h1]
def PInv(t:Str)(f b i:Nat):Prop:=f<=i/\1<=i/\((b=0/\∀j,j < i->br t f j=false)∨(br t f b=true/\b < i/\((b<=78/\∀j,b < j->j < i->br t f j=false)∨(78 < b/\∀j,j < b->br t f j=false))))
theorem PInv.done{t:Str}{f b i:Nat}(h:PInv t f b i)(hi:0 < b/\78 < i∨t.length<=i):vgb t f b:=by
 obtain ⟨hf,h1,h2⟩:=h;rcases h2 with ⟨rfl,h3⟩ | ⟨h3,h4,h5⟩
 .left;refine ⟨rfl,fun j=>?_⟩;cases hb:br t f j with
  | false=>rfl
  | true=>
   have:=(vhb hb).1;rw[h3 j (by omega)]at hb;cases hb
 right;refine ⟨h3,?_⟩;rcases h5 with ⟨h6,h7⟩ | h6
 .left;refine ⟨h6,fun j hj hj2=>?_⟩;cases hb:br t f j with
  | false=>rfl
  | true=>
   have:=(vhb hb).1;rw[h7 j hj (by omega)]at hb;cases hb
 exact .inr h6
theorem z8b(t:Str)(f:Nat)(ht:t.length<=4194304)(hf:f<=4194304):j8a t (f:Int)=some ((cutP t (max f 1):Nat):Int):=by
 unfold j8a;have hstart:max (f:Int) 1=((max f 1:Nat):Int):=by omega
 rw[hstart];obtain ⟨r,h1,b,rfl,h2⟩:=W4a (body:=yHa t) (fun s=>∃b i:Nat,s=((b:Int),(i:Int))/\PInv t (max f 1) b i/\i<=4194305) (fun s=>(4194306 - s.2).toNat) (fun _ r=>∃c:Nat,r=(c:Int)/\vgb t (max f 1) c) (by
  rintro _ ⟨b,i,rfl,hI,hil⟩;have hi1:=hI.2.1;unfold yHa;dsimp only;by_cases hlt:i < t.length
  .have hd:decide ((i:Int) < (t.length:Int))=true:=by simp;omega
   have hpre:w64 ((i:Int) - 1)=((i - 1:Nat):Int):=by rw[q0a (by omega) (by omega)];omega
   rw[hd,Kja hlt,hpre,Kja (show i - 1 < t.length by omega)];have hb:=br_at (f:=max f 1) hi1 hlt;have hfi:decide (max f 1<=i)=true:=by simp only[decide_eq_true_eq];exact hI.1
   rw[hfi,Bool.true_and]at hb;simp only[cond_true,Option.bind_some,jPa];have next:∀b' :Nat,PInv t (max f 1) b' (i+1)->qUa ((b:Int),(i:Int)) (b' :Int)=some (.cont ((b' :Int),((i+1:Nat):Int))):=by
    intro b' _;unfold qUa;dsimp only;rw[sc i (by omega)]
   have hno:br t (max f 1) i=false->PInv t (max f 1) b (i+1):=by
    intro hnb;refine ⟨by have:=hI.1;omega,by omega,?_⟩;rcases hI.2.2 with ⟨q1,q2⟩ | ⟨q1,q2,q3⟩
    .left;refine ⟨q1,fun j hj=>?_⟩;by_cases e:j=i
     .subst e;exact hnb
     exact q2 j (by omega)
    right;refine ⟨q1,by omega,?_⟩;rcases q3 with ⟨q4,q5⟩ | q4
    .left;refine ⟨q4,fun j hj hj2=>?_⟩;by_cases e:j=i
     .subst e;exact hnb
     exact q5 j hj (by omega)
    exact .inr q4
   have goNo:br t (max f 1) i=false->(∃s',qUa ((b:Int),(i:Int)) (b:Int)=some (.cont s')/\(∃b i:Nat,s' =((b:Int),(i:Int))/\PInv t (max f 1) b i/\i<=4194305)/\(4194306 - s'.2).toNat < (4194306 - ((i:Int))).toNat/\∀r:Int,(∃c:Nat,r=(c:Int)/\vgb t (max f 1) c)->∃c:Nat,r=(c:Int)/\vgb t (max f 1) c):=by
    intro hnb;exact ⟨_,next b (hno hnb),⟨b,i+1,rfl,hno hnb,by omega⟩,by dsimp only;omega,fun _ h=>h⟩
   cases ha:zQa t[i] with
   | false=>
    rw[ha]at hb;simp only[Bool.not_false,cond_true,Option.bind_some];exact .inr (goNo hb)
   | true=>
    rw[ha]at hb;simp only[Bool.not_true,cond_false,Option.bind_some];cases hp:zQa t[i - 1] with
    | true=>
     rw[hp]at hb;simp only[cond_true];exact .inr (goNo hb)
    | false=>
     rw[hp]at hb;have hb:br t (max f 1) i=true:=hb;simp only[cond_false];by_cases hb0:0 < b/\78 < i
     .left;have e1:decide ((0:Int) < (b:Int))=true:=by simp;omega
      have e2:decide ((78:Int) < (i:Int))=true:=by simp;omega
      rw[e1,e2];exact ⟨(b:Int),rfl,b,rfl,hI.done (.inl hb0)⟩
     right;have e:(bif decide ((0:Int) < (b:Int)) then some (decide ((78:Int) < (i:Int))) else some false)=some false:=by
      by_cases h0:0 < b
      .have e1:decide ((0:Int) < (b:Int))=true:=by simp;omega
       have e2:decide ((78:Int) < (i:Int))=false:=by simp;omega
       rw[e1,e2];rfl
      have e1:decide ((0:Int) < (b:Int))=false:=by simp;omega
      rw[e1];rfl
     rw[e];simp only[Option.bind_some,cond_false];have hnew:PInv t (max f 1) i (i+1):=by
      refine ⟨by have:=hI.1;omega,by omega,.inr ⟨hb,by omega,?_⟩⟩;by_cases h78:i<=78
      .exact .inl ⟨h78,fun j h1 h2=>by omega⟩
      right;refine ⟨by omega,?_⟩;rcases hI.2.2 with ⟨q1,q2⟩ | ⟨q1,q2,q3⟩
      .exact q2
      exfalso;have:=(vhb q1).2.1;omega
     exact ⟨_,next i hnew,⟨i,i+1,rfl,hnew,by omega⟩,by dsimp only;omega,fun _ h=>h⟩
  left;have hd:decide ((i:Int) < (t.length:Int))=false:=by simp;omega
  rw[hd];exact ⟨(b:Int),rfl,b,rfl,hI.done (.inr (by omega))⟩) ((0:Int),((max f 1:Nat):Int)) ⟨0,max f 1,rfl,⟨Nat.le_refl _,by omega,.inl ⟨rfl,fun j hj=>by
  cases hb:br t (max f 1) j with
  | false=>rfl
  | true=>have:=(vhb hb).2.2;omega⟩⟩,by omega⟩
 rw[h1];simp only[Option.bind_some];rw[k2b h2 (jGb t (max f 1))]
theorem R_cut_eq(t:Str)(f:Nat)(out:List Str)(ht:t.length<=4194304)(h78:78 < t.length)(hf:f<=4194304)(h1f:1<=f):((iter (kGa (t,(f:Int),out)) (0,78)).bind fun b10=>iter (koa (t,(f:Int),out)) (b10,79))=some ((cutP t f:Nat):Int):=by
 have test:∀i:Nat,1<=i->i < t.length->((bif decide ((f:Int)<=(i:Int)) then (idx t (i:Int)).bind fun v18=>(vea v18).bind fun v20=>(bif v20 then (idx t ((w64 ((i:Int) - 1)))).bind fun v23=>(vea v23).bind fun v25=>some ((!v25)) else some false) else some false):Option Bool)=some (br t f i):=by
  intro i h1 h2;have hpre:w64 ((i:Int) - 1)=((i - 1:Nat):Int):=by rw[q0a (by omega) (by omega)];omega
  rw[br_at h1 h2,Kja h2,hpre,Kja (show i - 1 < t.length by omega)];have e:decide ((f:Int)<=(i:Int))=decide (f<=i):=by rw[Bool.eq_iff_iff];simp
  rw[e];simp only[Option.bind_some,yTa];cases decide (f<=i) <;> cases zQa t[i] <;> rfl
 have hdn:∀i:Nat,i<=78->iter (kGa (t,(f:Int),out)) (0,(i:Int))=some ((V0a t f i:Nat):Int):=by
  intro i;induction i with
  | zero=>intro _;exact zGa (by unfold kGa;rfl)
  | succ i ih=>
   intro hi;have hb:kGa (t,(f:Int),out) (0,((i+1:Nat):Int))=some (.cont ((bif br t f (i+1) then ((i+1:Nat):Int) else 0),(i:Int))):=by
    unfold kGa;dsimp only;have e1:decide ((0:Int) < ((i+1:Nat):Int))=true:=by rw[decide_eq_true_eq];omega
    have e2:w64 (((i+1:Nat):Int) - 1)=(i:Int):=by rw[q0a (by omega) (by omega)];omega
    rw[test (i+1) (by omega) (by omega),e1,e2];simp only[beq_self_eq_true,cond_true,Option.bind_some];cases br t f (i+1) <;> rfl
   rw[zNa hb];unfold V0a;cases hq:br t f (i+1) with
   | false=>simpa using ih (by omega)
   | true=>
    simp only[cond_true,if_true];refine zGa ?_;unfold kGa;dsimp only;have e3:((((i+1:Nat):Int))==0)=false:=by rw[beq_eq_false_iff_ne];omega
    rw[e3];cases decide ((0:Int) < (i:Int)) <;> rfl
 have h1:=hdn 78 (by omega);have e78:((78:Nat):Int)=78:=rfl;rw[e78]at h1;rw[h1];simp only[Option.bind_some];have hout:∀(c i:Nat),c≠0->iter (koa (t,(f:Int),out)) ((c:Int),(i:Int))=some ((c:Nat):Int):=by
  intro c i hc;refine zGa ?_;unfold koa;dsimp only;have e3:((c:Int)==0)=false:=by rw[beq_eq_false_iff_ne];omega
  rw[e3];cases decide ((i:Int) < (t.length:Int)) <;> rfl
 have hup:∀n i:Nat,i+n=t.length->1<=i->iter (koa (t,(f:Int),out)) (0,(i:Int))=some ((z7b t f n i:Nat):Int):=by
  intro n;induction n with
  | zero=>
   intro i hi _;refine zGa ?_;unfold koa;dsimp only;have:decide ((i:Int) < (t.length:Int))=false:=by rw[decide_eq_false_iff_not];omega
   rw[this];rfl
  | succ n ih=>
   intro i hi h1i;have hb:koa (t,(f:Int),out) (0,(i:Int))=some (.cont ((bif br t f i then (i:Int) else 0),((i+1:Nat):Int))):=by
    unfold koa;dsimp only;have e1:decide ((i:Int) < (t.length:Int))=true:=by simp;omega
    rw[test i h1i (by omega),e1,sc i (by omega)];simp only[beq_self_eq_true,cond_true,Option.bind_some];cases br t f i <;> rfl
   rw[zNa hb];unfold z7b;cases hq:br t f i with
   | false=>simpa using ih (i+1) (by omega) (by omega)
   | true=>
    simp only[cond_true,if_true];exact hout i (i+1) (by omega)
 unfold cutP;have e79:((79:Nat):Int)=79:=rfl;by_cases h0:V0a t f 78=0
 .rw[if_pos h0,h0];have:=hup (t.length - 79) 79 (by omega) (by omega);rw[e79]at this;exact this
 rw[if_neg h0];have:=hout (V0a t f 78) 79 h0;rw[e79]at this;exact this
def Vha:Nat->Str->Nat->List Str
 | 0,t,_=>[t]
 | n+1,t,f=>if 78 < t.length then (if cutP t f=0 then [t] else t.take (cutP t f)::Vha n (t.drop (cutP t f)) 1) else [t]
theorem z9b:∀(n m:Nat) (t:Str) (f:Nat),t.length<=n->t.length<=m->Vha n t f=Vha m t f:=by
 intro n;induction n with
 | zero=>
  intro m t f h1 h2;cases m with
  | zero=>rfl
  | succ m=>unfold Vha;rw[if_neg (by omega)]
 | succ n ih=>
  intro m t f h1 h2;cases m with
  | zero=>unfold Vha;rw[if_neg (by omega)]
  | succ m=>
   unfold Vha;split
   .split
    .rfl
    rename_i hc;have:=KXa hc;rw[ih m _ 1 (by simp;omega) (by simp;omega)]
   rfl
def joa(t:Str)(f:Nat):List Str:=Vha t.length t f
theorem Wqa{t:Str}{f:Nat}(h:78 < t.length)(hc:cutP t f≠0):joa t f=t.take (cutP t f)::joa (t.drop (cutP t f)) 1:=by
 unfold joa;obtain ⟨n,hn⟩:∃n,t.length=n+1:=⟨t.length - 1,by omega⟩;have hp:=KXa hc;rw[hn,Vha,if_pos h,if_neg hc];rw[z9b n (t.drop (cutP t f)).length _ 1 (by simp;omega) (Nat.le_refl _)]
theorem wha{t:Str}{f:Nat}(h:¬78 < t.length∨cutP t f=0):joa t f=[t]:=by
 unfold joa;cases hn:t.length with
 | zero=>rfl
 | succ n=>
  rw[Vha];rcases h with h | h
  .rw[if_neg h]
  split
  .rfl
  rfl
theorem Wra:∀(n:Nat) (t:Str) (f:Nat),t.length<=n->(joa t f).flatten=t/\(joa t f).length<=t.length+1:=by
 intro n;induction n with
 | zero=>intro t f h;rw[wha (.inl (by omega))];simp
 | succ n ih=>
  intro t f h;by_cases h78:78 < t.length
  .by_cases hc:cutP t f=0
   .rw[wha (.inr hc)];simp
   have hp:=KXa hc;rw[Wqa h78 hc];obtain ⟨h1,h2⟩:=ih (t.drop (cutP t f)) 1 (by simp;omega);rw[List.flatten_cons,h1];refine ⟨by simp,?_⟩;simp only[List.length_cons,List.length_drop]at h2 ⊢;omega
  rw[wha (.inl h78)];simp
theorem J5a{body:Str × Int × List Str->Option (Step (Str × Int × List Str) (Str × List Str))}(enc:Nat->Int)(g:Nat)
 (h:∀(t:Str) (f:Nat) (out:List Str),t.length<=4194304->out.length<=4194305->f<=4194304->body (t,enc f,out)=some (if 78 < t.length then (if cutP t (max f 1)=0 then .out (t,out) else .cont (t.drop (cutP t (max f 1)),enc g,out++ [t.take (cutP t (max f 1))])) else .out (t,out))) (h0:max g 1=1):
 ∀(n:Nat) (t:Str) (f:Nat) (out:List Str),t.length<=n->t.length<=4194304->out.length+t.length<=4194305->f<=4194304->∃last init,iter body (t,enc f,out)=some (last,init)/\init++ [last]=out++joa t (max f 1):=by
 intro n;induction n with
 | zero=>
  intro t f out h1 h2 h3 h4;have hb:=h t f out h2 (by omega) h4;rw[if_neg (by omega)]at hb;exact ⟨t,out,zGa hb,by rw[wha (.inl (by omega))]⟩
 | succ n ih=>
  intro t f out h1 h2 h3 h4;have hb:=h t f out h2 (by omega) h4;by_cases h78:78 < t.length
  .rw[if_pos h78]at hb;by_cases hc:cutP t (max f 1)=0
   .rw[if_pos hc]at hb;exact ⟨t,out,zGa hb,by rw[wha (.inr hc)]⟩
   rw[if_neg hc]at hb;have hp:=KXa hc;obtain ⟨last,init,q1,q2⟩:=ih (t.drop (cutP t (max f 1))) g (out++ [t.take (cutP t (max f 1))]) (by simp;omega) (by simp;omega) (by simp;omega) (by omega);refine ⟨last,init,(zNa hb).trans q1,?_⟩;rw[q2,h0,Wqa h78 hc];simp
  rw[if_neg h78]at hb;exact ⟨t,out,zGa hb,by rw[wha (.inl h78)]⟩
def txt(n v:Str):Str:=n++ [58,32]++v
def flP(n v:Str):List Str:=joa (txt n v) (n.length+2)
theorem jHb(t:Str)(f:Nat)(ht:t.length<=4194304)(hf:f<=4194304):∃last init,iter yga (t,(f:Int),([]:List Str))=some (last,init)/\init++ [last]=joa t (max f 1):=by
 have:=J5a (body:=yga) (fun n=>(n:Int)) 0 (fun t f out h1 h2 h3=>by
  unfold yga;dsimp only;by_cases h78:78 < t.length
  .have hd:decide ((78:Int) < (t.length:Int))=true:=by rw[decide_eq_true_eq];omega
   rw[hd,if_pos h78,z8b t f h1 h3];simp only[cond_true,Option.bind_some];by_cases hc:cutP t (max f 1)=0
   .rw[if_pos hc,hc];rfl
   have hp:=KXa hc;have e:(((cutP t (max f 1):Nat):Int)==0)=false:=by rw[beq_eq_false_iff_ne];omega
   rw[if_neg hc,e,Zga (by omega),jna (by omega)];simp only[cond_false,Option.bind_some];rw[kha (by simp;omega)];rfl
  have hd:decide ((78:Int) < (t.length:Int))=false:=by rw[decide_eq_false_iff_not];omega
  rw[hd,if_neg h78];rfl) (by decide) t.length t f [] (Nat.le_refl _) ht (by simp;omega) hf
 simpa using this
theorem ref_loop(t:Str)(f:Nat)(ht:t.length<=4194304)(hf:f<=4194304)(h1f:1<=f):∃last init,iter vwa (t,(f:Int),([]:List Str))=some (last,init)/\init++ [last]=joa t f:=by
 have:=J5a (body:=vwa) (fun n=>((max n 1:Nat):Int)) 1 (fun t f out h1 h2 h3=>by
  unfold vwa;dsimp only;by_cases h78:78 < t.length
  .have hd:decide ((78:Int) < (t.length:Int))=true:=by rw[decide_eq_true_eq];omega
   have hc0:=R_cut_eq t (max f 1) out h1 h78 (by omega) (by omega);obtain ⟨b10,hb10,hc1⟩:=Option.bind_eq_some_iff.1 hc0;rw[hd,if_pos h78,hb10];simp only[cond_true,Option.bind_some];rw[hc1];simp only[Option.bind_some];by_cases hc:cutP t (max f 1)=0
   .rw[if_pos hc,hc];rfl
   have hp:=KXa hc;have e:(((cutP t (max f 1):Nat):Int)==0)=false:=by rw[beq_eq_false_iff_ne];omega
   rw[if_neg hc,e,Zga (by omega),jna (by omega)];simp only[cond_false,Option.bind_some];rw[kha (by simp;omega)];rfl
  have hd:decide ((78:Int) < (t.length:Int))=false:=by rw[decide_eq_false_iff_not];omega
  rw[hd,if_neg h78];rfl) (by decide) t.length t f [] (Nat.le_refl _) ht (by simp;omega) hf
 have e:max f 1=f:=by omega
 rw[e]at this;simpa using this
theorem jIb(n v:Str)(hn:n.length<=1048576)(hv:v.length<=1048576):cat n [58,32]=some (n++ [58,32])/\cat (n++ [58,32]) v=some (txt n v)/\w64 ((n.length:Int)+2)=((n.length+2:Nat):Int):=by
 refine ⟨Zha (by simp;omega),Zha (by simp;omega),?_⟩;rw[q0a (by omega) (by omega)];omega
theorem YEa(n v:Str):(txt n v).length=n.length+2+v.length:=by unfold txt;simp;omega
theorem Kla(n v:Str)(hn:n.length<=1048576)(hv:v.length<=1048576):wma n v=some (flP n v):=by
 obtain ⟨h1,h2,h3⟩:=jIb n v hn hv;have hl:=YEa n v;obtain ⟨last,init,q1,q2⟩:=ref_loop (txt n v) (n.length+2) (by omega) (by omega) (by omega);unfold wma flP;rw[h1];simp only[Option.bind_some];rw[h2];simp only[Option.bind_some];rw[h3,q1];simp only[Option.bind_some];have hj:=(Wra (txt n v).length (txt n v) (n.length+2) (Nat.le_refl _)).2;rw[<-q2]at hj;simp at hj;rw[kha (by simp;omega),q2];rfl
def YFa(i:Nat)(l:Str):Option Int:=if 998 < l.length then some (i:Int) else none
def vib(n v:Str):List Str × zta:=
 if !fnP n then ([],⟨10, -1⟩) else if 4000 < v.length then ([],⟨1, -1⟩) else if !valP v then ([],⟨11, -1⟩) else match zEa YFa 0 (flP n v) with | some i=>([],⟨1,i⟩) | none=>(flP n v,⟨0,0⟩)
theorem wlb(n v:Str):(flP n v).length<=n.length+v.length+3:=by
 have:=(Wra (txt n v).length (txt n v) (n.length+2) (Nat.le_refl _)).2;have hl:=YEa n v;unfold flP;omega
theorem dec998(l:Str):decide ((998:Int) < (l.length:Int))=decide (998 < l.length):=by generalize l.length=n;rw[Bool.eq_iff_iff];simp;omega
theorem jHa(n v:Str)(hn:n.length<=1048576)(hv:v.length<=1048576):y5a n v=some (vib n v):=by
 obtain ⟨h1,h2,h3⟩:=jIb n v hn hv;have hl:=YEa n v;obtain ⟨last,init,q1,q2⟩:=jHb (txt n v) (n.length+2) (by omega) (by omega);rw[show max (n.length+2) 1=n.length+2 by omega]at q2;unfold y5a vib;rw[k0b n hn,z6b v hv];simp only[Option.bind_some,kna,qga];cases fnP n with
 | false=>rfl
 | true=>
  simp only[Bool.not_true,cond_false,Bool.false_eq_true,if_false];by_cases h4:4000 < v.length
  .have hd:decide ((4000:Int) < (v.length:Int))=true:=by rw[decide_eq_true_eq];omega
   rw[hd,if_pos h4];rfl
  have hd:decide ((4000:Int) < (v.length:Int))=false:=by rw[decide_eq_false_iff_not];omega
  rw[hd,if_neg h4];simp only[cond_false];cases valP v with
  | false=>rfl
  | true=>
   simp only[Bool.not_true,cond_false,Bool.false_eq_true,if_false];rw[h1];simp only[Option.bind_some];rw[h2];simp only[Option.bind_some];rw[h3,q1];simp only[Option.bind_some];have hj:=wlb n v;have hfl:flP n v=init++ [last]:=q2.symm;have hj2:=hj;rw[hfl]at hj2;simp at hj2;rw[kha (by simp;omega),<-hfl];simp only[Option.bind_some];rw[zIa (flP n v) (fun i l=>(YFa i l).map fun k=>(([]:List Str),(⟨1,k⟩:zta))) (.inl ()) .inr]
   .simp only[Option.bind_some];have hm:∀(l:List Str) (i:Nat),zEa (fun i l=>(YFa i l).map fun k=>(([]:List Str),(⟨1,k⟩:zta))) i l=(zEa YFa i l).map fun k=>(([]:List Str),(⟨1,k⟩:zta)):=by
     intro l;induction l with
     | nil=>intro i;rfl
     | cons x l ih=>intro i;unfold zEa;rw[ih];cases YFa i x <;> rfl
    rw[hm];cases zEa YFa 0 (flP n v) <;> rfl
   .unfold jDa;rw[zMa];rfl
   intro i l hli;have hi:=zOa hli;unfold jDa YFa;rw[kia hli,zHa hli];simp only[cond_true,Option.bind_some,dec998,kna,sc i (by omega)];by_cases h9:998 < l.length
   .simp[h9]
   simp[h9]
def ZGa(f:zia):Int:=(vib f.Name f.Value).2.Code
def kab(l:List Str):Bool:=l.any fun s=>decide (998 < s.length)
theorem J6a(l:List Str):∀n,(zEa YFa n l).isSome=kab l:=by
 induction l with
 | nil=>intro n;rfl
 | cons x l ih=>
  intro n;unfold zEa kab YFa;by_cases h:998 < x.length
  .simp[h]
  simp only[h,if_false,List.any_cons,decide_false,Bool.false_or];exact ih (n+1)
def jJb(n v:Str):Int:=if !fnP n then 10 else if 4000 < v.length then 1 else if !valP v then 11 else if kab (flP n v) then 1 else 0
theorem kbb(f:zia):ZGa f=jJb f.Name f.Value:=by
 unfold ZGa vib jJb;rw[<-J6a (flP f.Name f.Value) 0];split
 .rfl
 split
 .rfl
 split
 .rfl
 cases zEa YFa 0 (flP f.Name f.Value) <;> rfl
theorem R_In_60(s:Str):R_In (s.length:Int) 1 60=some (s !=([]:Str) && decide (s.length<=60)):=by
 rw[vfa];cases s with
 | nil=>rfl
 | cons c s=>
  have h:decide ((1:Int)<=((c::s).length:Int))=true:=by rw[decide_eq_true_eq];simp;omega
  rw[h,dec60];rfl
theorem elim_int(c:Int)(o:Option Unit)(f:Unit->Option Int):Sum.elim f (fun b=>some b) (o.elim (Sum.inl ()) (fun _=>Sum.inr c):Unit ⊕ Int)=bif o.isSome then some c else f ():=by cases o <;> rfl
theorem Qpa(f:zia)(hn:f.Name.length<=1048576)(hv:f.Value.length<=1048576):wXa f=some (ZGa f):=by
 rw[kbb];unfold wXa;have hl1:iter (vRa f) 0=some ((zEa (fun _ c=>if !fnC c then some () else none) 0 f.Name).elim (.inl ()) fun _=>.inr 10):=by
  refine zIa f.Name _ (Sum.inl ()) (fun _=>Sum.inr 10) ?_ ?_
  .unfold vRa;rw[zMa];rfl
  intro i c hc;have hi:=zOa hc;unfold vRa;rw[kia hc,zHa hc];simp only[cond_true,Option.bind_some,vfa,qWa c 58 (by decide),jEa 33 c (by decide),jFa 126 c (by decide),sc i (by omega)];unfold fnC bne;cases decide ((33:UInt8)<=c) <;> cases decide (c<=126) <;> cases c==58 <;> rfl
 have hl2:iter (vSa f) 0=some ((zEa (fun _ c=>if endC c then some () else none) 0 f.Value).elim (.inl ()) fun _=>.inr 11):=by
  refine zIa f.Value _ (Sum.inl ()) (fun _=>Sum.inr 11) ?_ ?_
  .unfold vSa;rw[zMa];rfl
  intro i c hc;have hi:=zOa hc;unfold vSa;rw[kia hc,zHa hc];simp only[cond_true,Option.bind_some,qWa c 0 (by decide),qWa c 10 (by decide),qWa c 13 (by decide),sc i (by omega)];unfold endC;cases c==0 <;> cases c==10 <;> cases c==13 <;> rfl
 have hl3:∀l:List Str,l.length<=4194304->iter (vTa l) 0=some ((zEa (fun _ c=>if decide (998 < c.length) then some () else none) 0 l).elim (.inl ()) fun _=>.inr 1):=by
  intro l hl;refine zIa l _ (Sum.inl ()) (fun _=>Sum.inr 1) ?_ ?_
  .unfold vTa;rw[zMa];rfl
  intro i c hc;have hi:=zOa hc;unfold vTa;rw[kia hc,zHa hc];simp only[cond_true,Option.bind_some,dec998,sc i (by omega)];cases decide (998 < c.length) <;> rfl
 have hfl:=wlb f.Name f.Value;rw[hl1];simp only[Option.bind_some,elim_int,ZFa,z4b,R_In_60,hl2,Kla _ _ hn hv,hl3 _ (show (flP f.Name f.Value).length<=4194304 by omega)];have h4:decide ((4000:Int) < (f.Value.length:Int))=decide (4000 < f.Value.length):=by generalize f.Value.length=n;rw[Bool.eq_iff_iff];simp;omega
 have he:(bif decide ((0:Int) < (f.Value.length:Int)) then (idx f.Value 0).bind fun v38=>(vea v38).bind fun v40=>(bif v40 then some true else (idx f.Value ((w64 ((f.Value.length:Int) - 1)))).bind fun v43=>(vea v43).bind fun v45=>some v45) else some false)=some (jEb f.Value):=by
  by_cases hn0:f.Value=[]
  .rw[hn0];rfl
  obtain ⟨a,b,h1,h2,h3,h4⟩:=wkb f.Value hn0 hv;have hp:=List.length_pos_iff.2 hn0;have hd:decide ((0:Int) < (f.Value.length:Int))=true:=by rw[decide_eq_true_eq];omega
  unfold jEb;rw[h1,h2,h3,h4,hd];simp only[Option.bind_some,yTa,cond_true];cases zQa a <;> rfl
 rw[he,h4];simp only[Option.bind_some];unfold jJb fnP valP kab;cases f.Name.all fnC <;> cases (f.Name !=([]:Str)) <;> cases decide (f.Name.length<=60) <;> (try rfl)
 simp only[Bool.and_true,Bool.not_true,Bool.false_eq_true,if_false,cond_false];by_cases h4000:4000 < f.Value.length
 .simp[h4000]
 simp only[h4000,decide_false,cond_false,if_false];cases f.Value.any endC <;> cases jEb f.Value <;> (try rfl)
 simp only[Bool.not_false,Bool.and_true,Bool.not_true,Bool.false_eq_true,if_false,cond_false];cases (flP f.Name f.Value).any fun s=>decide (998 < s.length) <;> rfl
def smallF(l:List zia):Prop:=l.length<=1048576/\∀f∈l,f.Name.length<=1048576/\f.Value.length<=1048576
def Kma(i:Nat)(f:zia):Option zta:=if ZGa f !=0 then some ⟨ZGa f,i⟩ else none
def K9a(l:List zia):zta:=if 60 < l.length then ⟨2, -1⟩ else (zEa Kma 0 l).getD ⟨0,0⟩
theorem dec60f(l:List zia):decide ((60:Int) < (l.length:Int))=decide (60 < l.length):=by generalize l.length=n;rw[Bool.eq_iff_iff];simp;omega
theorem Via(l:List zia)(h:smallF l):vva l=some (K9a l):=by
 obtain ⟨h1,h2⟩:=h;unfold vva K9a;rw[zIa l Kma (.inl ()) .inr]
 .simp only[Option.bind_some,kna,qga,VZa,dec60f];by_cases h6:60 < l.length <;> simp[h6]
 .unfold vka;rw[zMa];rfl
 intro i f hf;have hi:=zOa hf;obtain ⟨hn,hv⟩:=h2 f (List.mem_of_getElem? hf);unfold vka Kma;rw[kia hf,zHa hf];simp only[cond_true,Option.bind_some,jHa _ _ hn hv,kea,kna,sc i (by omega)];show (bif ZGa f !=0 then _ else _)=_;cases ZGa f !=0 <;> rfl
theorem KYa(l:List zia)(h:(K9a l).Code=0):¬60 < l.length/\zEa Kma 0 l=none/\∀f∈l,ZGa f=0:=by
 unfold K9a at h;by_cases h6:60 < l.length
 .rw[if_pos h6]at h;simp at h
 rw[if_neg h6]at h;cases hq:zEa Kma 0 l with
 | some y=>
  rw[hq]at h;obtain ⟨i,f,h1,h2⟩:=ZEa hq;unfold Kma at h2;exfalso;by_cases hc:ZGa f=0
  .simp[hc]at h2
  have:(ZGa f !=0)=true:=by simpa using hc
  rw[this]at h2;simp at h2;subst h2;exact hc h
 | none=>
  refine ⟨h6,rfl,fun f hf=>?_⟩;obtain ⟨i,hi⟩:=List.getElem?_of_mem hf;have:=qXa.1 hq i f hi;unfold Kma at this;simpa using this
theorem kcb{f:zia}(h:ZGa f=0):f.Name.length<=60/\f.Value.length<=4000/\vib f.Name f.Value=(flP f.Name f.Value,⟨0,0⟩)/\∀l∈flP f.Name f.Value,l.length<=998:=by
 have h0:=h;rw[kbb]at h;unfold jJb at h;have h1:fnP f.Name=true:=by cases hx:fnP f.Name with
  | true=>rfl
  | false=>rw[hx]at h;simp at h
 rw[h1]at h;simp only[Bool.not_true,Bool.false_eq_true,if_false]at h;have h2:¬4000 < f.Value.length:=by intro hx;rw[if_pos hx]at h;simp at h
 rw[if_neg h2]at h;have h3:valP f.Value=true:=by cases hx:valP f.Value with
  | true=>rfl
  | false=>rw[hx]at h;simp at h
 rw[h3]at h;simp only[Bool.not_true,Bool.false_eq_true,if_false]at h;have h4:kab (flP f.Name f.Value)=false:=by cases hx:kab (flP f.Name f.Value) with
  | false=>rfl
  | true=>rw[hx]at h;simp at h
 refine ⟨?_,by omega,?_,?_⟩
 .unfold fnP at h1;simp only[Bool.and_eq_true,decide_eq_true_eq]at h1;exact h1.1.2
 .unfold vib;rw[h1,h3];simp only[Bool.not_true,Bool.false_eq_true,if_false,if_neg h2];have:=J6a (flP f.Name f.Value) 0;rw[h4]at this;cases hx:zEa YFa 0 (flP f.Name f.Value) with
  | none=>rfl
  | some y=>rw[hx]at this;cases this
 intro l hl;unfold kab at h4;rw[List.any_eq_false]at h4;have:=h4 l hl;simp at this;omega
def addL(a:List UInt8)(l:Str):List UInt8:=a++l++ [13,10]
def addF(a:List UInt8)(f:zia):List UInt8:=(flP f.Name f.Value).foldl addL a
def jpa(m:zBa):List UInt8:=m.Fields.foldl addF []++ [13,10]++m.Body
theorem wmb(l:List Str)(acc:List UInt8)(hl:l.length<=5000)(h9:∀s∈l,s.length<=998)(ha:acc.length<=1000000000){body:Int × List UInt8->Option (Step (Int × List UInt8) (List UInt8))}
 (h0:∀s,body ((l.length:Int),s)=some (.out s)) (h1:∀(i:Nat) x s,l[i]? =some x->s.length<=1006000000->body ((i:Int),s)=some (.cont (((i+1:Nat):Int),addL s x))):iter body (0,acc)=some (l.foldl addL acc)/\(l.foldl addL acc).length<=acc.length+1000 * l.length:=
 Zia l (fun i s=>(i,s)) addL id (fun i s=>s.length<=acc.length+1000 * i) (body:=body) (fun s _=>h0 s) (fun i x s hx hi=>by
  have hlt:=zOa hx;have h9x:=h9 x (List.mem_of_getElem? hx);refine ⟨h1 i x s hx (by omega),?_⟩;unfold addL;simp;omega) acc (by simp)
theorem k3b(l:List zia)(hl:l.length<=60)(hc:∀f∈l,ZGa f=0){body:Int × List UInt8->Option (Step (Int × List UInt8) (List UInt8))}
 (h0:∀s,body ((l.length:Int),s)=some (.out s)) (h1:∀(i:Nat) f s,l[i]? =some f->s.length<=1000000000->body ((i:Int),s)=some (.cont (((i+1:Nat):Int),addF s f))/\(addF s f).length<=s.length+5000000):iter body (0,([]:List UInt8))=some (l.foldl addF [])/\(l.foldl addF []).length<=5000000 * l.length:=
 Zia l (fun i s=>(i,s)) addF id (fun i s=>s.length<=5000000 * i) (body:=body) (fun s _=>h0 s) (fun i f s hf hi=>by
  have hlt:=zOa hf;obtain ⟨q1,q2⟩:=h1 i f s hf (by omega);exact ⟨q1,by omega⟩) [] (by simp)
theorem WFa(m:zBa)(hb:m.Body.length<=1048576)(h60:m.Fields.length<=60)(hc:∀f∈m.Fields,ZGa f=0):wza m=some (jpa m):=by
 unfold wza jpa;obtain ⟨h1,h2⟩:=k3b m.Fields h60 hc (body:=q3a m) (fun s=>by unfold q3a;rw[zMa];rfl) (fun i f s hf hs=>by
  have hi:=zOa hf;obtain ⟨c1,c2,c3,c4⟩:=kcb (hc f (List.mem_of_getElem? hf));have hfl:=wlb f.Name f.Value;obtain ⟨q1,q2⟩:=wmb (flP f.Name f.Value) s (by omega) c4 hs (body:=q2a (vib f.Name f.Value)) (fun s=>by unfold q2a;rw[c3,zMa];rfl) (fun k x s hx hs=>by
   have hk:=zOa hx;have:=c4 x (List.mem_of_getElem? hx);unfold q2a;rw[c3,kia hx,zHa hx];simp only[cond_true,Option.bind_some,sc k (by omega)];rw[kha (by omega)];simp only[Option.bind_some];rw[kha (by simp;omega)];rfl)
  unfold addF;refine ⟨?_,by omega⟩;unfold q3a;rw[kia hf,zHa hf];simp only[cond_true,Option.bind_some,jHa f.Name f.Value (by omega) (by omega),q1,sc i (by omega)])
 rw[h1];simp only[Option.bind_some];rw[kha (by simp;omega)];simp only[Option.bind_some];rw[kha (by simp;omega)];rfl
theorem V1a(m:zBa)(hb:m.Body.length<=1048576)(h60:m.Fields.length<=60)(hc:∀f∈m.Fields,ZGa f=0):vUa m=some (jpa m):=by
 unfold vUa jpa;obtain ⟨h1,h2⟩:=k3b m.Fields h60 hc (body:=qBa m) (fun s=>by unfold qBa;rw[zMa];rfl) (fun i f s hf hs=>by
  have hi:=zOa hf;obtain ⟨c1,c2,c3,c4⟩:=kcb (hc f (List.mem_of_getElem? hf));have hfl:=wlb f.Name f.Value;obtain ⟨q1,q2⟩:=wmb (flP f.Name f.Value) s (by omega) c4 hs (body:=qAa (flP f.Name f.Value)) (fun s=>by unfold qAa;rw[zMa];rfl) (fun k x s hx hs=>by
   have hk:=zOa hx;have:=c4 x (List.mem_of_getElem? hx);unfold qAa;rw[kia hx,zHa hx];simp only[cond_true,Option.bind_some,sc k (by omega)];rw[kha (by omega)];simp only[Option.bind_some];rw[kha (by simp;omega)];rfl)
  unfold addF;refine ⟨?_,by omega⟩;unfold qBa;rw[kia hf,zHa hf];simp only[cond_true,Option.bind_some,Kla f.Name f.Value (by omega) (by omega),q1,sc i (by omega)])
 rw[h1];simp only[Option.bind_some];rw[kha (by simp;omega)];simp only[Option.bind_some];rw[kha (by simp;omega)];rfl
def JBa:Nat->List UInt8->Option Bool
 | _,[]=>none
 | c,[x]=>if x==13 || x==10 then some true else if 998 < c+1 then some false else none
 | c,x::y::r=>if x==13 && y==10 then JBa 0 r else if x==13 || x==10 then some true else if 998 < c+1 then some false else JBa (c+1) (y::r)
def Vja{O:Type}(e:Bool->O)(c i:Nat)(x:UInt8)(r:List UInt8):Step (Int × Int) (Unit ⊕ O):=
 if x==13 && r.head? ==some 10 then .cont (0,((i+2:Nat):Int)) else if x==13 || x==10 then .out (.inr (e true)) else if 998 < c+1 then .out (.inr (e false)) else .cont (((c+1:Nat):Int),((i+1:Nat):Int))
theorem k4b{O:Type}(e:Bool->O)(l:List UInt8){body:Int × Int->Option (Step (Int × Int) (Unit ⊕ O))}
 (h0:∀c,body (c,(l.length:Int))=some (.out (.inl ())))
 (hs:∀(c:Nat) (p:List UInt8) x r,l=p++x::r->c<=998->body ((c:Int),(p.length:Int))=some (Vja e c p.length x r)):
 ∀(n:Nat) (r p:List UInt8) (c:Nat),r.length<=n->l=p++r->c<=998->iter body ((c:Int),(p.length:Int))=some ((JBa c r).elim (.inl ()) fun b=>.inr (e b)):=by
 intro n;induction n with
 | zero=>
  intro r p c hr hl hc;obtain rfl:r=[]:=List.length_eq_zero_iff.1 (by omega);have:p=l:=by simp[hl]
  subst this;exact zGa (h0 _)
 | succ n ih=>
  intro r p c hr hl hc
  match r,hr,hl with
  | [],_,hl=>
   have:p=l:=by simp[hl]
   subst this;exact zGa (h0 _)
  | [x],hr,hl=>
   have hb:=hs c p x [] hl hc;unfold Vja at hb;have e1:(x==13 && ([]:List UInt8).head? ==some 10)=false:=by simp
   rw[e1]at hb;simp only[Bool.false_eq_true,if_false]at hb;unfold JBa;cases hx:(x==13 || x==10) with
   | true=>rw[hx]at hb;exact zGa hb
   | false=>
    rw[hx]at hb;simp only[Bool.false_eq_true,if_false]at hb ⊢;by_cases h9:998 < c+1
    .rw[if_pos h9]at hb ⊢;exact zGa hb
    rw[if_neg h9]at hb ⊢;rw[zNa hb];have:=ih [] (p++ [x]) (c+1) (by simp) (by simp[hl]) (by omega);rw[List.length_append]at this;exact this
  | x::y::r,hr,hl=>
   have hb:=hs c p x (y::r) hl hc;unfold Vja at hb;have e1:((y::r).head? ==some (10:UInt8))=(y==10):=by simp
   rw[e1]at hb;unfold JBa;cases hxy:(x==13 && y==10) with
   | true=>
    rw[hxy]at hb;simp only[if_true]at hb ⊢;rw[zNa hb];have:=ih r (p++ [x,y]) 0 (by simp at hr;omega) (by simp[hl]) (by omega);rw[List.length_append]at this;exact this
   | false=>
    rw[hxy]at hb;simp only[Bool.false_eq_true,if_false]at hb ⊢;cases hx:(x==13 || x==10) with
    | true=>rw[hx]at hb;exact zGa hb
    | false=>
     rw[hx]at hb;simp only[Bool.false_eq_true,if_false]at hb ⊢;by_cases h9:998 < c+1
     .rw[if_pos h9]at hb ⊢;exact zGa hb
     rw[if_neg h9]at hb ⊢;rw[zNa hb];have:=ih (y::r) (p++ [x]) (c+1) (by simp at hr ⊢;omega) (by simp[hl]) (by omega);rw[List.length_append]at this;exact this
theorem jKb{l p r:List UInt8}{x:UInt8}(h:l=p++x::r)(hl:l.length<=1048576):(bif decide (((p.length+1:Nat):Int) < (l.length:Int)) then (idx l ((p.length+1:Nat):Int)).bind fun v13=>some (((v13.toNat:Int)==10)) else some false)=some (r.head? ==some 10):=by
 subst h;simp at hl;cases r with
 | nil=>
  have:decide (((p.length+1:Nat):Int) < ((p++ [x]).length:Int))=false:=by simp
  rw[this];rfl
 | cons y r=>
  have:decide (((p.length+1:Nat):Int) < ((p++x::y::r).length:Int))=true:=by simp;omega
  rw[this,w3a];have:(p++x::y::r)[p.length+1]? =some y:=by simp[List.getElem?_append_right]
  rw[this];simp only[cond_true,Option.bind_some,qWa y 10 (by decide)];simp
theorem kdb(l:List UInt8)(hl:l.length<=1048576):j9a l=some ((JBa 0 l).elim 0 fun b=>bif b then 11 else 1):=by
 unfold j9a;have:=k4b (fun b:Bool=>bif b then (11:Int) else 1) l (body:=vIa l) (fun c=>by unfold vIa;rw[zMa];rfl) (fun c p x r h hc=>by
  have hx:l[p.length]? =some x:=by simp[h]
  have hi:=zOa hx;unfold vIa wAa Vja;dsimp only;rw[kia hx,zHa hx];simp only[cond_true,Option.bind_some,qWa x 13 (by decide),qWa x 10 (by decide),sc p.length (by omega),sc (p.length+1) (by omega),sc c (by omega)];rw[jKb h hl];have h9:decide ((998:Int) < ((c+1:Nat):Int))=decide (998 < c+1):=by rw[Bool.eq_iff_iff];simp;omega
  rw[h9];by_cases h98:998 < c+1 <;> simp only[h98,decide_true,decide_false,if_true,if_false] <;> cases x==13 <;> cases x==10 <;> cases r.head? ==some 10 <;> rfl) l.length l [] 0 (Nat.le_refl _) rfl (by omega)
 have h2:iter (vIa l) (0,0)=_:=this;rw[h2];cases JBa 0 l with
 | none=>rfl
 | some b=>cases b <;> rfl
def bodyF(l:List UInt8):zta:=(JBa 0 l).elim ⟨0,0⟩ fun b=>bif b then ⟨11, -5⟩ else ⟨1, -6⟩
theorem YGa(l:List UInt8)(hl:l.length<=1048576):yha l=some (bodyF l):=by
 unfold yha bodyF;rw[kdb l hl];cases JBa 0 l with
 | none=>rfl
 | some b=>cases b <;> rfl
def msgF(m:zBa):zta:=if (K9a m.Fields).Code !=0 then K9a m.Fields else if 12000 < (jpa m).length then ⟨1, -4⟩ else bodyF m.Body
def jLb(m:zBa):Prop:=smallF m.Fields/\m.Body.length<=1048576
theorem QGa(m:zBa)(h:jLb m):q4a m=some (msgF m):=by
 obtain ⟨h1,h2⟩:=h;unfold q4a msgF;rw[Via _ h1];simp only[Option.bind_some,kea,kna,YGa _ h2];cases hc:(K9a m.Fields).Code !=0 with
 | true=>rfl
 | false=>
  obtain ⟨q1,q2,q3⟩:=KYa m.Fields (by simpa using hc);rw[WFa m h2 (by omega) q3];simp only[Option.bind_some,cond_false,Bool.false_eq_true,if_false];have:decide ((12000:Int) < ((jpa m).length:Int))=decide (12000 < (jpa m).length):=by generalize (jpa m).length=n;rw[Bool.eq_iff_iff];simp;omega
  rw[this];by_cases hb:12000 < (jpa m).length <;> simp[hb]
theorem V2a(m:zBa)(h:jLb m):vVa m=some (msgF m):=by
 obtain ⟨⟨h1,h3⟩,h2⟩:=h;unfold vVa msgF;rw[zIa m.Fields Kma (.inl ()) .inr]
 .have hbl:iter (kZa m) (0,0)=_:=k4b (fun b:Bool=>bif b then (⟨11, -5⟩:zta) else ⟨1, -6⟩) m.Body (body:=kZa m) (fun c=>by unfold kZa;rw[zMa];rfl) (fun c p x r h hc=>by
   have hx:m.Body[p.length]? =some x:=by simp[h]
   have hi:=zOa hx;unfold kZa qCa Vja;dsimp only;rw[kia hx,zHa hx];simp only[cond_true,Option.bind_some,qWa x 13 (by decide),qWa x 10 (by decide),sc p.length (by omega),sc (p.length+1) (by omega),sc c (by omega),jOa];rw[jKb h h2];have h9:decide ((998:Int) < ((c+1:Nat):Int))=decide (998 < c+1):=by rw[Bool.eq_iff_iff];simp;omega
   rw[h9];by_cases h98:998 < c+1 <;> simp only[h98,decide_true,decide_false,if_true,if_false] <;> cases x==13 <;> cases x==10 <;> cases r.head? ==some 10 <;> rfl) m.Body.length m.Body [] 0 (Nat.le_refl _) rfl (by omega)
  rw[hbl,dec60f];simp only[Option.bind_some,jOa];by_cases h6:60 < m.Fields.length
  .have:K9a m.Fields=⟨2, -1⟩:=by unfold K9a;rw[if_pos h6]
   rw[this];simp[h6]
  simp only[h6,decide_false,cond_false];have hh:K9a m.Fields=(zEa Kma 0 m.Fields).getD ⟨0,0⟩:=by unfold K9a;rw[if_neg h6]
  cases hq:zEa Kma 0 m.Fields with
  | some y=>
   rw[hq]at hh;have hc:((K9a m.Fields).Code !=0)=true:=by
    cases hc:(K9a m.Fields).Code !=0 with
    | true=>rfl
    | false=>
     obtain ⟨_,q2,_⟩:=KYa m.Fields (by simpa using hc);rw[hq]at q2;cases q2
   rw[hc,hh];rfl
  | none=>
   rw[hq]at hh;have hz:K9a m.Fields=⟨0,0⟩:=hh;obtain ⟨q1,q2,q3⟩:=KYa m.Fields (by rw[hz]);rw[V1a m h2 (by omega) q3,hz];simp only[Option.bind_some,Option.elim_none,Sum.elim_inl];have hbb:m.Body.length<=(jpa m).length:=by unfold jpa;simp;omega
   have e2:(bif decide ((12000:Int) < (m.Body.length:Int)) then some true else some (decide ((12000:Int) < ((jpa m).length:Int))))=some (decide (12000 < (jpa m).length)):=by
    generalize (jpa m).length=n at *;by_cases hx:12000 < m.Body.length
    .have e3:decide ((12000:Int) < (m.Body.length:Int))=true:=by rw[decide_eq_true_eq];omega
     have e4:decide (12000 < n)=true:=by rw[decide_eq_true_eq];omega
     rw[e3,e4];rfl
    have e3:decide ((12000:Int) < (m.Body.length:Int))=false:=by rw[decide_eq_false_iff_not];omega
    rw[e3];simp only[cond_false,Option.some.injEq];rw[Bool.eq_iff_iff];simp;omega
   rw[e2];simp only[Option.bind_some];unfold bodyF;by_cases hb:12000 < (jpa m).length
   .simp[hb]
   simp only[hb,decide_false,cond_false,if_false];cases JBa 0 m.Body <;> rfl
 .unfold vJa;rw[zMa];rfl
 intro i f hf;have hi:=zOa hf;obtain ⟨hn,hv⟩:=h3 f (List.mem_of_getElem? hf);unfold vJa Kma;rw[kia hf,zHa hf];simp only[cond_true,Option.bind_some,Qpa _ hn hv,jOa,sc i (by omega)];cases ZGa f !=0 <;> rfl
def add1(o:List Str)(x:Str):List Str:=if o.contains x then o else o++ [x]
def YHa(o xs:List Str):List Str:=xs.foldl add1 o
theorem add1_mem(o:List Str)(x y:Str):y∈add1 o x↔y∈o∨y=x:=by
 unfold add1;split
 .rename_i h;simp at h;constructor
  .exact .inl
  rintro (h1 | rfl)
  .exact h1
  exact h
 simp
theorem vjb(o:List Str)(x:Str):o <+:add1 o x:=by
 unfold add1;split
 .exact List.prefix_refl _
 exact List.prefix_append _ _
theorem yhb{o:List Str}(h:o.Nodup)(x:Str):(add1 o x).Nodup:=by
 unfold add1;split
 .exact h
 rename_i hx;simp at hx;rw[List.nodup_append];exact ⟨h,by simp,fun a ha b hb hab=>by simp at hb;subst hb;subst hab;exact hx ha⟩
theorem J7a(xs:List Str):∀(o:List Str) (y:Str),y∈YHa o xs↔y∈o∨y∈xs:=by
 induction xs with
 | nil=>intro o y;simp[YHa]
 | cons x xs ih=>intro o y;show y∈YHa (add1 o x) xs↔_;rw[ih,add1_mem];simp[or_assoc]
theorem keb(xs:List Str):∀o:List Str,o <+:YHa o xs:=by
 induction xs with
 | nil=>intro o;exact List.prefix_refl _
 | cons x xs ih=>intro o;exact (vjb o x).trans (ih _)
theorem Wsa(xs:List Str):∀{o:List Str},o.Nodup->(YHa o xs).Nodup:=by
 induction xs with
 | nil=>intro o h;exact h
 | cons x xs ih=>intro o h;exact ih (yhb h x)
theorem nodup_le{l m:List Str}(hl:l.Nodup)(h:∀x∈l,x∈m):l.length<=m.length:=by
 induction l generalizing m with
 | nil=>simp
 | cons x l ih=>
  have hx:x∈m:=h x (by simp);obtain ⟨hxl,hl'⟩:=List.nodup_cons.1 hl;have:=ih (m:=m.erase x) hl' (fun y hy=>by
   have hne:y≠x:=by rintro rfl;exact hxl hy
   exact (List.mem_erase_of_ne hne).2 (h y (by simp[hy])))
  rw[List.length_erase_of_mem hx]at this;have:0 < m.length:=List.length_pos_of_mem hx;simp;omega
def tgtO(l:List y2a)(s:Str):Option (List Str):=(l.find? (fun a=>a.Address==s)).map (·.To)
def tgt(l:List y2a)(s:Str):List Str:=(tgtO l s).getD []
def univ(l:List y2a)(from_:List Str):List Str:=from_++l.flatMap (·.To)
theorem tgt_sub(l:List y2a)(s x:Str)(h:x∈tgt l s):∃a∈l,a.Address=s/\x∈a.To:=by
 unfold tgt tgtO at h;cases hf:l.find? (fun a=>a.Address==s) with
 | none=>rw[hf]at h;simp at h
 | some a=>
  rw[hf]at h;have:=List.find?_some hf;exact ⟨a,List.mem_of_find?_eq_some hf,by simpa using this,by simpa using h⟩
structure Inv (l:List y2a) (U:List Str) (k:Nat) (out:List Str):Prop where
 nd:out.Nodup
 sub:∀x∈out,x∈U
 le:k<=out.length
theorem Inv.len{l:List y2a}{U:List Str}{k:Nat}{out:List Str}(h:Inv l U k out):out.length<=U.length:=nodup_le h.nd h.sub
theorem Inv.step{l:List y2a}{from_:List Str}{k:Nat}{out:List Str}(h:Inv l (univ l from_) k out){s:Str}(hs:out[k]? =some s):Inv l (univ l from_) (k+1) (YHa out (tgt l s)):=by
 refine ⟨Wsa _ h.nd,fun x hx=>?_,?_⟩
 .rcases (J7a _ _ _).1 hx with h1 | h1
  .exact h.sub x h1
  obtain ⟨a,ha,_,hxa⟩:=tgt_sub l s x h1;exact List.mem_append.2 (.inr (List.mem_flatMap.2 ⟨a,ha,hxa⟩))
 have:=(keb (tgt l s) out).length_le;have:=zOa hs;omega
theorem Inv.start(l:List y2a)(from_:List Str):Inv l (univ l from_) 0 (YHa [] from_):=
 ⟨Wsa _ List.nodup_nil,fun x hx=>by
  rcases (J7a _ _ _).1 hx with h1 | h1
  .simp at h1
  exact List.mem_append.2 (.inl h1),Nat.zero_le _⟩
instance:DecidableEq zca:=fun a b=>decidable_of_iff (a.Address=b.Address/\a.Notify=b.Notify) (by cases a;cases b;simp)
instance:DecidableEq zta:=fun a b=>decidable_of_iff (a.Code=b.Code/\a.Index=b.Index) (by cases a;cases b;simp)
instance:DecidableEq zKa:=fun a b=>decidable_of_iff (a.From=b.From/\a.To=b.To/\a.Id=b.Id) (by cases a;cases b;simp)
theorem rec_eq(a b:zca):wqa [(a.Address==b.Address),(a.Notify==b.Notify)]=(a==b):=by
 cases a;cases b;rw[Bool.eq_iff_iff];simp[wqa]
theorem QHa(a b:List zca)(ha:a.length<=1048576):q1a a b=some (a==b):=by
 unfold q1a;by_cases hlen:a.length=b.length
 .have h1:((a.length:Int) !=(b.length:Int))=false:=by rw[hlen];simp
  rw[h1];simp only[cond_false];rw[zIa a (fun i x=>if b[i]? !=some x then some false else none) (.inl ()) .inr]
  .simp only[Option.bind_some];cases hf:zEa (fun i x=>if b[i]? !=some x then some false else none) 0 a with
   | none=>
    rw[qXa]at hf;have:a=b:=by
     apply List.ext_getElem?;intro i;by_cases hi:i < a.length
     .have:=hf i a[i] (List.getElem?_eq_getElem hi);rw[Nat.zero_add]at this;rw[List.getElem?_eq_getElem hi];simp at this;exact this.symm
     rw[List.getElem?_eq_none (by omega),List.getElem?_eq_none (by omega)]
    subst this;simp
   | some r=>
    obtain ⟨i,x,hx,hq⟩:=ZEa hf;rw[Nat.zero_add]at hq;split at hq
    .cases hq;rename_i hne;have:(a==b)=false:=by
      rw[beq_eq_false_iff_ne];rintro rfl;rw[hx]at hne;simp at hne
     rw[this];rfl
    cases hq
  .unfold qSa;rw[zMa];rfl
  intro i x hx;have hi:=zOa hx;unfold qSa;have hib:i < b.length:=by omega
  rw[kia hx,zHa hx,Kja hib,List.getElem?_eq_getElem hib];simp only[cond_true,Option.bind_some,sc i (by omega),rec_eq];by_cases hxb:x=b[i]
  .subst hxb;simp
  have e1:(x==b[i])=false:=by simpa using hxb
  have e2:(some b[i] !=some x)=true:=by simp;exact fun h=>hxb h.symm
  rw[e1,e2];rfl
 have h1:((a.length:Int) !=(b.length:Int))=true:=by simp;omega
 rw[h1];simp only[cond_true];have:(a==b)=false:=by rw[beq_eq_false_iff_ne];rintro rfl;exact hlen rfl
 rw[this]
def Vka(a b:Int)(s:Int × Int):Int × Int:=(bif (iRem (iQuo a s.2) 2==1 || iRem (iQuo b s.2) 2==1) then w64 (s.1+s.2) else s.1,w64 (2 * s.2))
def vkb(a b:Int):Int:=(Vka a b (Vka a b (Vka a b (0,1)))).1
theorem YIa(a b n k:Int)(hk:k<=4)(h0:(k==0)=false):wWa a b (n,k)=some (.cont (Vka a b (n,k))):=by
 unfold wWa Vka;have h1:decide (k<=4)=true:=by simp;exact hk
 have h2:nz k=some true:=by unfold nz;rw[h0];rfl
 dsimp only;rw[h1,h2];simp only[cond_true,Option.bind_some];cases iRem (iQuo a k) 2==1 <;> cases iRem (iQuo b k) 2==1 <;> rfl
theorem vlb(a b:Int):Vca a b=some (vkb a b):=by
 unfold Vca;have e1:(Vka a b (0,1)).2=2:=show w64 (2 * 1)=2 by decide
 have e2:∀n,(Vka a b (n,2)).2=4:=fun n=>show w64 (2 * 2)=4 by decide
 have e3:∀n,(Vka a b (n,4)).2=8:=fun n=>show w64 (2 * 4)=8 by decide
 rw[zNa (YIa a b 0 1 (by decide) (by decide))];have f1:Vka a b (0,1)=((Vka a b (0,1)).1,2):=Prod.ext rfl e1;rw[f1,zNa (YIa a b _ 2 (by decide) (by decide))];have f2:∀n,Vka a b (n,2)=((Vka a b (n,2)).1,4):=fun n=>Prod.ext rfl (e2 n)
 rw[f2,zNa (YIa a b _ 4 (by decide) (by decide))];have f3:∀n,Vka a b (n,4)=((Vka a b (n,4)).1,8):=fun n=>Prod.ext rfl (e3 n)
 rw[f3];have hlast:∀n:Int,wWa a b (n,8)=some (.out n):=by intro n;unfold wWa;rfl
 rw[zGa (hlast _)];unfold vkb;rw[f1,f2];rfl
theorem yib:∀a b:Fin 8,vkb (a.val:Int) (b.val:Int)=iOr (a.val:Int) (b.val:Int)/\qKa (vkb (a.val:Int) (b.val:Int))=true:=by decide+kernel
theorem wnb{n:Int}(h:qKa n=true):∃a:Fin 8,n=(a.val:Int):=by
 unfold qKa at h;simp at h;exact ⟨⟨n.toNat,by omega⟩,by simp;omega⟩
theorem jMb{a b:Int}(ha:qKa a=true)(hb:qKa b=true):vkb a b=iOr a b/\qKa (iOr a b)=true:=by
 obtain ⟨x,rfl⟩:=wnb ha;obtain ⟨y,rfl⟩:=wnb hb;obtain ⟨h1,h2⟩:=yib x y;exact ⟨h1,h1▸h2⟩
def orL(n:Int)(l:List zca):Int:=l.foldl (fun n r=>iOr n r.Notify) n
def kga(s:Str)(r:zca):Bool:=r.Address==s
def Zka:Nat->List zca->List zca
 | 0,_=>[]
 | _,[]=>[]
 | n+1,r::t=>⟨r.Address,orL r.Notify (t.filter (kga r.Address))⟩::Zka n (t.filter fun x=> !kga r.Address x)
theorem kfb:∀(n m:Nat) (l:List zca),l.length<=n->l.length<=m->Zka n l=Zka m l:=by
 intro n;induction n with
 | zero=>intro m l h1 h2;have:l=[]:=List.length_eq_zero_iff.1 (by omega);subst this;cases m <;> rfl
 | succ n ih=>
  intro m l h1 h2;cases l with
  | nil=>cases m <;> rfl
  | cons r t=>
   cases m with
   | zero=>simp at h2
   | succ m=>
    unfold Zka
    congr 1
    have:=List.length_filter_le (fun x=> !kga r.Address x) t;simp at h1 h2;exact ih m _ (by omega) (by omega)
def wIa(l:List zca):List zca:=Zka l.length l
theorem QIa(r:zca)(t:List zca):wIa (r::t)=⟨r.Address,orL r.Notify (t.filter (kga r.Address))⟩::wIa (t.filter fun x=> !kga r.Address x):=by
 unfold wIa;rw[List.length_cons,Zka]
 congr 1
 have:=List.length_filter_le (fun x=> !kga r.Address x) t;exact kfb _ _ _ this (Nat.le_refl _)
def hasA(out:List zca)(s:Str):Bool:=out.any (kga s)
def putR(out:List zca)(r:zca):List zca:=if hasA out r.Address then out.map (fun x=>if kga r.Address x then ⟨x.Address,iOr x.Notify r.Notify⟩ else x) else out++ [r]
theorem yjb:∀(l out:List zca),l.foldl putR out=out.map (fun x=>⟨x.Address,orL x.Notify (l.filter (kga x.Address))⟩)++wIa (l.filter fun x=> !hasA out x.Address):=by
 intro l;induction l with
 | nil=>intro out;simp[orL,wIa,Zka]
 | cons r t ih=>
  intro out;rw[List.foldl_cons,ih];unfold putR;cases hh:hasA out r.Address with
  | true=>
   simp only[if_true,List.map_map];have hs:∀s,hasA (out.map fun x=>if kga r.Address x then (⟨x.Address,iOr x.Notify r.Notify⟩:zca) else x) s=hasA out s:=by
    intro s;unfold hasA;rw[List.any_map]
    congr 1
    funext x;show kga s (if kga r.Address x then _ else x)=kga s x;by_cases hq:kga r.Address x=true
    .rw[if_pos hq];rfl
    rw[if_neg hq]
   have h1:(r::t).filter (fun x=> !hasA out x.Address)=t.filter fun x=> !hasA out x.Address:=by rw[List.filter_cons,hh];rfl
   rw[h1];simp only[hs]
   congr 1
   apply List.map_congr_left;intro x hx;simp only[Function.comp];by_cases hr:kga r.Address x=true
   .rw[if_pos hr];have:r.Address=x.Address:=by simpa[kga]using (beq_iff_eq.1 hr).symm
    have h2:(r::t).filter (kga x.Address)=r::t.filter (kga x.Address):=by
     rw[List.filter_cons];simp[kga,this]
    rw[h2];rfl
   rw[if_neg hr];have h2:(r::t).filter (kga x.Address)=t.filter (kga x.Address):=by
    rw[List.filter_cons];have:kga x.Address r=false:=by
     rw[Bool.eq_false_iff];intro h;exact hr (by simp[kga]at h ⊢;exact h.symm)
    rw[this];rfl
   rw[h2]
  | false=>
   simp only[Bool.false_eq_true,if_false,List.map_append,List.map_cons,List.map_nil,List.append_assoc];have h1:(r::t).filter (fun x=> !hasA out x.Address)=r::t.filter fun x=> !hasA out x.Address:=by rw[List.filter_cons,hh];rfl
   rw[h1,QIa];have hno:∀x∈out,kga x.Address r=false:=by
    intro x hx;unfold hasA at hh;rw[List.any_eq_false]at hh;have:=hh x hx;rw[Bool.eq_false_iff];intro h;exact this (by simp[kga]at h ⊢;exact h.symm)
   congr 1
   .apply List.map_congr_left;intro x hx;rw[List.filter_cons,hno x hx];rfl
   have h3:(t.filter fun x=> !hasA out x.Address).filter (kga r.Address)=t.filter (kga r.Address):=by
    rw[List.filter_filter];apply List.filter_congr;intro x hx;by_cases hs:kga r.Address x=true
    .have:x.Address=r.Address:=by simpa[kga]using hs
     rw[hs,this,hh];rfl
    rw[Bool.not_eq_true]at hs;rw[hs];rfl
   have h4:(t.filter fun x=> !hasA out x.Address).filter (fun x=> !kga r.Address x)=t.filter fun x=> !hasA (out++ [r]) x.Address:=by
    rw[List.filter_filter];apply List.filter_congr;intro x hx;unfold hasA;rw[List.any_append];simp only[List.any_cons,List.any_nil,Bool.or_false,Bool.not_or];have:kga x.Address r=kga r.Address x:=by unfold kga;rw[Bool.eq_iff_iff];simp;exact ⟨fun h=>h.symm,fun h=>h.symm⟩
    rw[this,Bool.and_comm]
   rw[h3,h4];rfl
theorem put_all(l:List zca):l.foldl putR []=wIa l:=by
 rw[yjb];have:l.filter (fun x=> !hasA [] x.Address)=l:=List.filter_eq_self.2 (fun x _=>by simp[hasA]);rw[this];rfl
def refM:List zca->List zca->List zca
 | out,[]=>out
 | out,r::t=>refM (if hasA out r.Address then out else out++ [⟨r.Address,orL r.Notify (t.filter (kga r.Address))⟩]) t
theorem refM_eq:∀(l out:List zca),refM out l=out++wIa (l.filter fun x=> !hasA out x.Address):=by
 intro l;induction l with
 | nil=>intro out;simp[refM,wIa,Zka]
 | cons r t ih=>
  intro out;unfold refM;rw[ih];cases hh:hasA out r.Address with
  | true=>
   simp only[if_true];rw[List.filter_cons,hh];rfl
  | false=>
   simp only[Bool.false_eq_true,if_false];have h1:(r::t).filter (fun x=> !hasA out x.Address)=r::t.filter fun x=> !hasA out x.Address:=by rw[List.filter_cons,hh];rfl
   rw[h1,QIa,List.append_assoc];have h3:(t.filter fun x=> !hasA out x.Address).filter (kga r.Address)=t.filter (kga r.Address):=by
    rw[List.filter_filter];apply List.filter_congr;intro x hx;by_cases hs:kga r.Address x=true
    .have:x.Address=r.Address:=by simpa[kga]using hs
     rw[hs,this,hh];rfl
    rw[Bool.not_eq_true]at hs;rw[hs];rfl
   have h4:(t.filter fun x=> !hasA out x.Address).filter (fun x=> !kga r.Address x)=t.filter fun x=> !hasA (out++ [⟨r.Address,orL r.Notify (t.filter (kga r.Address))⟩]) x.Address:=by
    rw[List.filter_filter];apply List.filter_congr;intro x hx;unfold hasA;rw[List.any_append];simp only[List.any_cons,List.any_nil,Bool.or_false,Bool.not_or];have:kga x.Address (⟨r.Address,orL r.Notify (t.filter (kga r.Address))⟩:zca)=kga r.Address x:=by unfold kga;rw[Bool.eq_iff_iff];simp;exact ⟨fun h=>h.symm,fun h=>h.symm⟩
    rw[this,Bool.and_comm]
   rw[h3,h4];rfl
theorem refM_all(l:List zca):refM [] l=wIa l:=by
 rw[refM_eq];have:l.filter (fun x=> !hasA [] x.Address)=l:=List.filter_eq_self.2 (fun x _=>by simp[hasA]);rw[this];rfl
theorem ykb(s:Str):∀(l:List zca) (n:Int),qKa n=true->(∀r∈l,qKa r.Notify=true)->l.foldl (fun n r=>if r.Address==s then vkb n r.Notify else n) n=orL n (l.filter (kga s)):=by
 intro l;induction l with
 | nil=>intro n _ _;rfl
 | cons r t ih=>
  intro n hn h;have hr:=h r (by simp);obtain ⟨e1,e2⟩:=jMb hn hr;rw[List.foldl_cons,List.filter_cons];unfold kga;by_cases hs:(r.Address==s)=true
  .rw[if_pos hs,if_pos hs,ih _ (by rw[e1];exact e2) (fun x hx=>h x (by simp[hx])),e1];rfl
  rw[if_neg hs,if_neg hs,ih _ hn (fun x hx=>h x (by simp[hx]))];rfl
def mq(i:Nat)(r:zca):Option zta:=if !qIa r.Address then some ⟨10,i⟩ else if !qKa r.Notify then some ⟨3,i⟩ else none
def wob(l:List zca):List zca × zta:=if 300 < l.length then ([],⟨2, -1⟩) else match zEa mq 0 l with | some f=>([],f) | none=>(wIa l,⟨0,0⟩)
theorem vmb{α R:Type}(q:Nat->α->Option R)(i:Nat)(x:α)(r:List α):zEa q i (x::r)=match q i x with | some y=>some y | none=>zEa q (i+1) r:=rfl
def posA(out:List zca)(s:Str):Option Nat:=out.findIdx? (kga s)
theorem kgb(out:List zca)(s:Str):(posA out s).isSome=hasA out s:=by unfold posA hasA;exact List.findIdx?_isSome
theorem posA_app(out:List zca)(r:zca)(s:Str)(h:hasA out r.Address=false):posA (out++ [r]) s=if r.Address==s then some out.length else posA out s:=by
 unfold posA;rw[List.findIdx?_append];by_cases hs:(r.Address==s)=true
 .rw[if_pos hs];have e:r.Address=s:=beq_iff_eq.1 hs;subst e;have:out.findIdx? (kga r.Address)=none:=by
   have:=kgb out r.Address;rw[h]at this;unfold posA at this;simpa using this
  rw[this];simp[kga]
 rw[if_neg hs];have:kga s r=false:=by unfold kga;simpa using hs
 simp[List.findIdx?_cons,this]
theorem posA_map(out:List zca)(f:zca->zca)(hf:∀x,(f x).Address=x.Address)(s:Str):posA (out.map f) s=posA out s:=by
 unfold posA;rw[List.findIdx?_map]
 congr 1
 funext x;simp[Function.comp,kga,hf]
theorem posA_get:∀(out:List zca) (s:Str) (k:Nat),posA out s=some k->∃x,out[k]? =some x/\x.Address=s:=by
 intro out s k h;unfold posA at h;rw[List.findIdx?_eq_some_iff_getElem]at h;obtain ⟨h1,h2,_⟩:=h;exact ⟨out[k],List.getElem?_eq_getElem h1,by simpa[kga]using h2⟩
theorem set_map(s:Str)(f:zca->zca):∀(out:List zca) (k:Nat) (x:zca),(out.map (·.Address)).Nodup->posA out s=some k->out[k]? =some x->out.set k (f x)=out.map (fun y=>if kga s y then f y else y):=by
 intro out;induction out with
 | nil=>intro k x _ h;simp[posA]at h
 | cons y out ih=>
  intro k x hn hp hk;rw[List.map_cons,List.nodup_cons]at hn;unfold posA at hp;rw[List.findIdx?_cons]at hp;by_cases hy:kga s y=true
  .rw[if_pos hy]at hp;cases hp;simp at hk;subst hk;rw[List.set_cons_zero,List.map_cons,if_pos hy]
   congr 1
   symm
   rw[List.map_congr_left (g:=id)]
   .simp
   intro z hz;have:¬kga s z=true:=by
    intro h;have e1:y.Address=s:=by simpa[kga]using hy
    have e2:z.Address=s:=by simpa[kga]using h
    exact hn.1 (by rw[e1,<-e2];exact List.mem_map_of_mem hz)
   rw[if_neg this];rfl
  rw[if_neg hy]at hp;cases hq:out.findIdx? (kga s) with
  | none=>rw[hq]at hp;simp at hp
  | some k' =>
   rw[hq]at hp;simp at hp;subst hp;rw[List.set_cons_succ,List.map_cons,if_neg hy,ih k' x hn.2 hq (by simpa using hk)]
structure MInv (i:Nat) (out:List zca) (m:List (Str × Int)):Prop where
 len:out.length<=i
 nd:(out.map (·.Address)).Nodup
 mp:∀s,mget m s=(posA out s).map fun k=>((k:Nat):Int)
theorem MInv.put{i:Nat}{out:List zca}{m:List (Str × Int)}(h:MInv i out m)(r:zca):MInv (i+1) (putR out r) (if hasA out r.Address then m else mput m r.Address (out.length:Int)):=by
 unfold putR;cases hh:hasA out r.Address with
 | true=>
  simp only[if_true];have hf:∀x:zca,(if kga r.Address x then (⟨x.Address,iOr x.Notify r.Notify⟩:zca) else x).Address=x.Address:=by intro x;split <;> rfl
  refine ⟨by simp;have:=h.len;omega,?_,fun s=>?_⟩
  .rw[List.map_map,show ((·.Address) ∘ fun x:zca=>if kga r.Address x then (⟨x.Address,iOr x.Notify r.Notify⟩:zca) else x)=(·.Address) from funext hf];exact h.nd
  rw[posA_map _ _ hf];exact h.mp s
 | false=>
  simp only[Bool.false_eq_true,if_false];refine ⟨by simp;exact h.len,?_,fun s=>?_⟩
  .rw[List.map_append,List.nodup_append];refine ⟨h.nd,by simp,?_⟩;intro a ha b hb;simp at hb;subst hb;rintro rfl;obtain ⟨x,hx,hxe⟩:=List.mem_map.1 ha;unfold hasA at hh;rw[List.any_eq_false]at hh;exact hh x hx (by simp[kga,hxe])
  rw[ydb,posA_app _ _ _ hh,h.mp s];by_cases hs:(r.Address==s)=true
  .rw[if_pos hs,if_pos hs];rfl
  rw[if_neg hs,if_neg hs]
theorem V3a(l:List zca)(h:J1a l):vQa l=some (wob l):=by
 obtain ⟨h3,h4⟩:=h;unfold vQa wob;by_cases h300:300 < l.length
 .have:decide ((300:Int) < (l.length:Int))=true:=by simp;omega
  rw[this,if_pos h300];rfl
 have:decide ((300:Int) < (l.length:Int))=false:=by simp;omega
 rw[this,if_neg h300];simp only[cond_false];rw[J0a (body:=qza l) (s0:=((0:Int),([]:List zca),([]:List (Str × Int)))) (S:=List zca × List (Str × Int)) l (fun i s=>((i:Int),s.1,s.2)) (fun i r s=>match zEa mq i r with | some f=>Sum.inr ([],f) | none=>Sum.inl (r.foldl putR s.1)) (fun i r s=>MInv i s.1 s.2)
  (fun s hi=>by unfold qza;simp[zMa,zEa])
  (fun p x r s hl hi=>by
   have hx:l[p.length]? =some x:=by rw[hl];simp
   have hlt:=zOa hx;have ha:=h4 x (List.mem_of_getElem? hx);have hil:=hi.len;have hmp:=hi.mp x.Address;have hq0:mq p.length x=if !qIa x.Address then some ⟨10,(p.length:Int)⟩ else if !qKa x.Notify then some ⟨3,(p.length:Int)⟩ else none:=rfl;rw[vmb,hq0];unfold qza;dsimp only;rw[kia hx,zHa hx];simp only[cond_true,Option.bind_some,qYa _ (show x.Address.length < 4294967281 by omega),wHa,kna];cases hA:qIa x.Address with
   | false=>left;rfl
   | true=>
    cases hN:qKa x.Notify with
    | false=>left;rfl
    | true=>
     right;simp only[Bool.not_true,cond_false,Bool.false_eq_true,if_false];refine ⟨(putR s.1 x,if hasA s.1 x.Address then s.2 else mput s.2 x.Address (s.1.length:Int)),?_,rfl,hi.put x⟩;unfold qya;rw[hmp];cases hp:posA s.1 x.Address with
     | some k=>
      obtain ⟨y,hy,hya⟩:=posA_get _ _ _ hp;have hh:hasA s.1 x.Address=true:=by rw[<-kgb,hp];rfl
      simp only[Option.map_some,Option.isSome_some,cond_true,Option.getD_some,zHa hy,Option.bind_some,Int.toNat_natCast,sc p.length (by omega),hh,if_true];unfold putR;rw[hh,if_pos rfl,set_map x.Address (fun y=>⟨y.Address,iOr y.Notify x.Notify⟩) s.1 k y hi.nd hp hy]
     | none=>
      have hh:hasA s.1 x.Address=false:=by rw[<-kgb,hp];rfl
      simp only[Option.map_none,Option.isSome_none,cond_false,hh,Bool.false_eq_true,if_false];rw[kha (by simp;omega)];simp only[Option.bind_some,sc p.length (by omega)];unfold putR;rw[hh];rfl) ([],[]) rfl ⟨Nat.le_refl _,by simp,fun s=>rfl⟩]
 simp only[Option.bind_some,qga,put_all];cases zEa mq 0 l with
 | some f=>rfl
 | none=>rfl
theorem vnb(l:List zca)(h:l.length<=1048576)(hn:∀r∈l,qKa r.Notify=true):Vda l=some (wIa l):=by
 unfold Vda;rw[J0a (body:=y4a l) (s0:=((0:Int),([]:List zca))) (S:=List zca) l (fun i s=>((i:Int),s)) (fun i r s=>refM s r) (fun i r s=>s.length<=i)
  (fun s hi=>by unfold y4a;simp[zMa,refM])
  (fun p x r s hl hi=>by
   have hx:l[p.length]? =some x:=by rw[hl];simp
   have hlt:=zOa hx;have hnx:=hn x (List.mem_of_getElem? hx);right;refine ⟨_,?_,rfl,?_⟩
   .unfold y4a;dsimp only;rw[kia hx,zHa hx];simp only[cond_true,Option.bind_some,J2a _ _ (show s.length<=1048576 by omega),sc p.length (by omega)];have hk:decide ((0:Int)<=(zEa (fun i y=>if y.Address==x.Address then some ((i:Nat):Int) else none) 0 s).getD (-1))=hasA s x.Address:=kXb (fun y=>y.Address==x.Address) s 0;rw[hk];cases hh:hasA s x.Address with
    | true=>rfl
    | false=>
     have hin:=z3b l (fun i (n:Int)=>(i,n)) (fun n y=>if y.Address==x.Address then vkb n y.Notify else n) (fun n=>n) (fun _ _=>True) (body:=y3a l x)
      (fun n _=>by unfold y3a;simp[zMa]) (fun i y n hy _=>by
       have hlt2:=zOa hy;refine ⟨?_,trivial⟩;unfold y3a;dsimp only;rw[kia hy,zHa hy];simp only[cond_true,Option.bind_some,vlb,sc i (by omega)];cases y.Address==x.Address <;> rfl) r (p++ [x]) x.Notify (by simp[hl]) trivial
     have e:(((p++ [x]).length:Nat):Int)=((p.length+1:Nat):Int):=by simp
     rw[e]at hin;rw[hin,ykb x.Address r x.Notify hnx (fun y hy=>hn y (by rw[hl];simp[hy]))];simp only[cond_false,Option.bind_some,Bool.false_eq_true,if_false];rw[kha (by simp;omega)];rfl
   split
   .omega
   simp;omega) ([]:List zca) rfl (Nat.zero_le _)]
 simp only[Option.bind_some,refM_all]
theorem map_fold{α β:Type}(f:α->β)(l:List α):∀o:List β,l.foldl (fun o x=>o++ [f x]) o=o++l.map f:=by
 induction l with
 | nil=>intro o;simp
 | cons x l ih=>intro o;simp[ih]
def lowC(c:UInt8):UInt8:=bif decide ((65:UInt8)<=c) && decide (c<=90) then c+97 - 65 else c
def lowP(s:Str):Str:=s.map lowC
theorem jQa(s:Str)(hs:s.length<=1048576):wfa s=some (lowP s):=by
 unfold wfa;have key:∀r p:Str,s=p++r->iter (qja s) ((p.length:Int),p.map lowC++r)=some (lowP s):=by
  intro r;induction r with
  | nil=>
   intro p h;have hp:p=s:=by simp[h]
   subst hp;refine zGa ?_;unfold qja;dsimp only;rw[zMa];simp[lowP]
  | cons c r ih=>
   intro p h;have hx:s[p.length]? =some c:=by simp[h]
   have hi:=zOa hx;have hx2:(p.map lowC++c::r)[p.length]? =some c:=by
    rw[List.getElem?_append_right (by simp)];simp
   have hb:qja s ((p.length:Int),p.map lowC++c::r)=some (.cont (((p.length+1:Nat):Int),(p++ [c]).map lowC++r)):=by
    unfold qja;dsimp only;rw[kia hx,zHa hx2];simp only[cond_true,Option.bind_some,jEa 65 c (by decide),jFa 90 c (by decide),sc p.length (by omega),Int.toNat_natCast];have hset:(p.map lowC++c::r).set p.length (lowC c)=(p++ [c]).map lowC++r:=by
     rw[List.set_append_right _ _ (by simp)];simp
    have hsame:lowC c=c->p.map lowC++c::r=(p++ [c]).map lowC++r:=by intro h;simp[h]
    unfold lowC at hset hsame ⊢;cases h1:decide ((65:UInt8)<=c) <;> cases h2:decide (c<=90) <;> rw[h1,h2]at hset hsame <;> simp only[Bool.and_true,Bool.and_false,Bool.true_and,Bool.false_and,cond_true,cond_false,Option.bind_some]at hset hsame ⊢
    .rw[hsame trivial]
    .rw[hsame trivial]
    .rw[hsame trivial]
    rw[hset]
   rw[zNa hb];have:=ih (p++ [c]) (by simp[h]);simpa using this
 have:=key s [] rfl;have h2:iter (qja s) (0,s)=some (lowP s):=this;rw[h2];rfl
theorem Qqa(n:Str)(hn:n.length<=1048576):wYa n=some (fnP n):=by
 unfold wYa;rw[jHa n [] hn (by simp)];simp only[Option.bind_some,kea,Option.some.injEq];have h:=kbb ⟨n,[]⟩;unfold ZGa at h;dsimp only at h;rw[h];unfold jJb;cases hf:fnP n with
 | false=>rfl
 | true=>
  have h60:n.length<=60:=by unfold fnP at hf;simp only[Bool.and_eq_true,decide_eq_true_eq]at hf;exact hf.1.2
  have hl:flP n []=[txt n []]:=by unfold flP;exact wha (.inl (by have:=YEa n [];simp at this;omega))
  have hlb:kab (flP n [])=false:=by
   rw[hl];have:=YEa n [];unfold kab;simp at this ⊢;omega
  have hv:valP []=true:=rfl;rw[hlb,hv];rfl
theorem jIa(s t:List UInt8)(hs:s.length<=9223372036854775806):kFa s t=some (t.isSuffixOf s):=by
 unfold kFa wVa;by_cases h:t.length<=s.length
 .have:decide ((t.length:Int)<=(s.length:Int))=true:=by simp;omega
  rw[this,jvb _ _ h (by omega),jna (by omega)];simp only[cond_true,Option.bind_some,Option.some.injEq];rw[Bool.eq_iff_iff,beq_iff_eq,List.isSuffixOf_iff_suffix,List.suffix_iff_eq_drop];constructor <;> exact fun h=>h.symm
 have:decide ((t.length:Int)<=(s.length:Int))=false:=by simp;omega
 rw[this];simp only[cond_false,Option.bind_some,Option.some.injEq]
 symm
 rw[Bool.eq_false_iff];intro hp;exact h (List.isSuffixOf_iff_suffix.1 hp).length_le
def chop(s:List UInt8):List UInt8:=if [13].isSuffixOf s then s.take (s.length - 1) else s
theorem khb(s:List UInt8)(hs:s.length<=9223372036854775806):kOa s [13]=some (chop s):=by
 unfold kOa chop;rw[jIa s _ hs];cases h: [13].isSuffixOf s with
 | false=>rfl
 | true=>
  have hl:=(List.isSuffixOf_iff_suffix.1 h).length_le;simp only[List.length_cons,List.length_nil]at hl;simp only[Option.bind_some,cond_true,List.length_cons,List.length_nil];rw[show ((s.length:Int) - ((0+1:Nat):Int))=((s.length - 1:Nat):Int) by omega,ZWa _ (by omega),Zga (by omega)];rfl
def eol(b:List UInt8):Nat:=b.findIdx (· ==10)
theorem Qra(c:UInt8):∀b:List UInt8,Lib.indexByte b c=if b.findIdx (· ==c) < b.length then ((b.findIdx (· ==c):Nat):Int) else -1
 | []=>rfl
 | x::b=>by
  have ih:=Qra c b;unfold Lib.indexByte;rw[List.findIdx_cons,ih];cases hx:x==c with
  | true=>simp
  | false=>
   simp only[Bool.false_eq_true,if_false,cond_false,List.length_cons];by_cases h:b.findIdx (· ==c) < b.length
   .rw[if_pos h,if_neg (by simp),if_pos (by omega)];simp
   rw[if_neg h,if_pos (show ((-1:Int)== -1)=true from rfl),if_neg (by omega)]
def yMa(b:List UInt8):List UInt8 × Nat:=if eol b < b.length then (chop (b.take (eol b)),eol b+1) else (b,b.length)
theorem JCa(b:List UInt8)(hb:b.length<=1048576):jja b=some ((yMa b).1,((yMa b).2:Int)):=by
 unfold jja yMa qFa;simp only[Option.bind_some];rw[Qra,show b.findIdx (· ==10)=eol b from rfl];by_cases h:eol b < b.length
 .rw[if_pos h,if_pos h,decide_eq_false (by omega),cond_false,Zga (by omega)];simp only[Option.bind_some];rw[khb _ (by simp;omega)];simp only[Option.bind_some];rw[wgb _ _ (show eol b+OfNat.ofNat 1<=_ by show eol b+1<=_;omega)]
 rw[if_neg h,if_neg h];rfl
theorem jNb{b:List UInt8}{i:Nat}(hi:i < b.length): [13].isSuffixOf (b.take i)=(decide (0 < i) && (b[i - 1]?).elim false (· ==13)):=by
 cases i with
 | zero=>simp
 | succ i=>
  rw[List.take_add_one,List.getElem?_eq_getElem (by omega:i < b.length)];simp only[Option.toList_some,Nat.succ_sub_one,Nat.zero_lt_succ,decide_true,Bool.true_and,Nat.add_sub_cancel];rw[List.getElem?_eq_getElem (by omega:i < b.length)];simp only[Option.elim_some];rw[Bool.eq_iff_iff,List.isSuffixOf_iff_suffix,beq_iff_eq];constructor
  .rintro ⟨t,ht⟩;have:=(List.append_inj' ht rfl).2;simpa using this.symm
  intro h;rw[h];exact ⟨_,rfl⟩
theorem V4a{R:Type}(c:UInt8)(r:Nat->R):∀(l:List UInt8) (n:Nat),zEa (fun i x=>if x==c then some (r i) else none) n l=if l.findIdx (· ==c) < l.length then some (r (n+l.findIdx (· ==c))) else none
 | [],n=>rfl
 | x::l,n=>by
  unfold zEa;rw[List.findIdx_cons];cases hx:x==c with
  | true=>simp
  | false=>
   simp only[Bool.false_eq_true,if_false,cond_false,List.length_cons];rw[V4a c r l (n+1)];by_cases h:l.findIdx (· ==c) < l.length
   .rw[if_pos h,if_pos (by omega),show n+1+l.findIdx (· ==c)=n+(l.findIdx (· ==c)+1) by omega]
   rw[if_neg h,if_neg (by omega)]
theorem kib(b:List UInt8)(hb:b.length<=1048576):Zca b=some ((yMa b).1,((yMa b).2:Int)):=by
 unfold Zca;rw[zIa b (fun i x=>if x==10 then some (chop (b.take i),((i+1:Nat):Int)) else none) (.inl ()) .inr]
 .rw[V4a];unfold yMa;rw[show b.findIdx (· ==10)=eol b from rfl];by_cases h:eol b < b.length
  .rw[if_pos h,if_pos h];simp
  rw[if_neg h,if_neg h];rfl
 .unfold yLa;rw[zMa];rfl
 intro i c hc;have hi:=zOa hc;unfold yLa;rw[kia hc,zHa hc];simp only[cond_true,Option.bind_some];rw[K6a c 10 (by decide)];cases h10:c==10 with
 | false=>
  simp only[bne,h10,Bool.not_false,cond_true,Bool.false_eq_true,if_false,Option.elim_none];rw[sc i (by omega)]
 | true=>
  simp only[bne,h10,Bool.not_true,cond_false,if_true,Option.elim_some];have hch:chop (b.take i)=if (decide (0 < i) && (b[i - 1]?).elim false (· ==13)) then b.take (i - 1) else b.take i:=by
   unfold chop;rw[jNb hi];split
   .rw[List.length_take,Nat.min_eq_left (by omega),List.take_take,Nat.min_eq_left (by omega)]
   rfl
  cases i with
  | zero=>
   rw[hch];rfl
  | succ i=>
   have e1:decide ((0:Int) < ((i+1:Nat):Int))=true:=by simp
   have e2:w64 (((i+1:Nat):Int) - 1)=((i:Nat):Int):=by rw[show (((i+1:Nat):Int) - 1)=((i:Nat):Int) by omega,ZWa _ (by omega)]
   rw[e1,e2,w3a,List.getElem?_eq_getElem (by omega:i < b.length)];simp only[cond_true,Option.bind_some];rw[qWa _ 13 (by decide),Zga (by omega),Zga (by omega),hch];simp only[Nat.add_sub_cancel,List.getElem?_eq_getElem (by omega:i < b.length),Option.elim_some,Nat.zero_lt_succ,decide_true,Bool.true_and];rw[sc (i+1) (by omega)];cases b[i]==13 <;> rfl
theorem YJa{b:List UInt8}(h:b≠ []):1<=(yMa b).2/\(yMa b).2<=b.length/\(yMa b).1.length<=b.length:=by
 have:=List.length_pos_iff.2 h;unfold yMa;split
 .refine ⟨by simp,by simp;omega,?_⟩;unfold chop;split <;> simp <;> omega
 exact ⟨this,Nat.le_refl _,Nat.le_refl _⟩
def wJa(l:List UInt8):List UInt8:=(l.reverse.dropWhile zQa).reverse
theorem k5b:(fun x=>([32,9]:List UInt8).contains x)=zQa:=by
 funext x;simp[zQa,List.contains,List.elem];cases h1:x==32 <;> cases h2:x==9 <;> simp_all
theorem Wta(s:Str)(hs:s.length<=9223372036854775807):qEa s [32,9]=some (wJa s):=by
 unfold qEa Lib.trimRightS wJa;rw[if_pos ⟨hs,by decide,rfl⟩,k5b]
theorem J8a(c:UInt8):∀b:List UInt8,Lib.index b [c]=if b.findIdx (· ==c) < b.length then ((b.findIdx (· ==c):Nat):Int) else -1
 | []=>rfl
 | x::b=>by
  have ih:=J8a c b;unfold Lib.index;rw[List.findIdx_cons,ih];have hp:([c]:List UInt8).isPrefixOf (x::b)=(x==c):=by
   simp only[List.isPrefixOf,Bool.and_true];rw[Bool.eq_iff_iff,beq_iff_eq,beq_iff_eq];exact eq_comm
  rw[hp];cases hx:x==c with
  | true=>simp
  | false=>
   simp only[Bool.false_eq_true,if_false,cond_false,List.length_cons];by_cases h:b.findIdx (· ==c) < b.length
   .rw[if_pos h,if_neg (by simp),if_pos (by omega)];simp
   rw[if_neg h,if_pos (show ((-1:Int)== -1)=true from rfl),if_neg (by omega)]
def colI(s:Str):Nat:=s.findIdx (· ==58)
def colP(s:Str):Str × Str × Bool:=if colI s < s.length then (wJa (s.take (colI s)),s.drop (colI s+1),fnP (wJa (s.take (colI s)))) else (wJa s,[],false)
theorem Zla(s:Str):(wJa s).length<=s.length:=by
 unfold wJa;rw[List.length_reverse];have:=(List.dropWhile_sublist zQa (l:=s.reverse)).length_le;simpa using this
theorem jOb(s:Str):Lib.cut s [58]=if colI s < s.length then (s.take (colI s),s.drop (colI s+1),true) else (s,[],false):=by
 unfold Lib.cut;rw[J8a,show s.findIdx (· ==58)=colI s from rfl];by_cases h:colI s < s.length
 .rw[if_pos h,if_pos h,if_pos (by omega)];simp
 rw[if_neg h,if_neg h,if_neg (by omega)]
theorem WGa(s:Str)(hs:s.length<=1048576):wDa s=some (⟨(colP s).1,(colP s).2.1⟩,(colP s).2.2):=by
 unfold wDa qRa;rw[if_pos (by omega)];simp only[Option.bind_some];rw[jOb];unfold colP;by_cases h:colI s < s.length
 .rw[if_pos h,if_pos h];dsimp only;rw[Wta _ (by simp;omega)];simp only[Option.bind_some,cond_true];rw[Qqa _ (by have:=Zla (s.take (colI s));simp at this;omega)];rfl
 rw[if_neg h,if_neg h];dsimp only;rw[Wta _ (by omega)];rfl
theorem jPb(n:Str)(hn:n.length<=1048576):(ZGa ⟨n,[]⟩==0)=fnP n:=by
 have h1:=Qqa n hn;unfold wYa at h1;rw[jHa n [] hn (by simp)]at h1;simp only[Option.bind_some,kea,Option.some.injEq]at h1;rw[<-h1];show (ZGa ⟨n,[]⟩==0)= !(ZGa ⟨n,[]⟩ !=0);simp[bne]
theorem J9a(l:Str)(x:UInt8):wJa (l++ [x])=if zQa x then wJa l else l++ [x]:=by
 unfold wJa;rw[List.reverse_append,List.reverse_cons,List.reverse_nil,List.nil_append,List.singleton_append,List.dropWhile_cons];split
 .rfl
 simp
theorem ylb(s:Str)(hs:s.length<=1048576)(i:Nat)(hi:i<=s.length):∃k:Nat,iter (yRa s) (i:Int)=some (k:Int)/\k<=i/\s.take k=wJa (s.take i):=by
 obtain ⟨r,h1,k,h2,h3,h4⟩:=W4a (body:=yRa s) (fun n=>∃m:Nat,n=(m:Int)/\m<=i/\wJa (s.take m)=wJa (s.take i)) (fun n=>n.toNat) (fun _ r=>∃k:Nat,r=(k:Int)/\k<=i/\s.take k=wJa (s.take i)) (by
  rintro _ ⟨m,rfl,hm,he⟩;cases m with
  | zero=>exact .inl ⟨0,rfl,0,rfl,Nat.zero_le _,he⟩
  | succ m=>
   have hml:m < s.length:=by omega
   have e1:decide ((0:Int) < ((m+1:Nat):Int))=true:=by simp
   have e2:w64 (((m+1:Nat):Int) - 1)=((m:Nat):Int):=by rw[show (((m+1:Nat):Int) - 1)=((m:Nat):Int) by omega,ZWa _ (by omega)]
   have hb:yRa s ((m+1:Nat):Int)=some (bif zQa s[m] then .cont (m:Int) else .out ((m+1:Nat):Int)):=by
    unfold yRa;rw[e1,e2,w3a,List.getElem?_eq_getElem hml];simp only[cond_true,Option.bind_some,yTa];cases zQa s[m] <;> rfl
   have ht:s.take (m+1)=s.take m++ [s[m]]:=by rw[List.take_add_one,List.getElem?_eq_getElem hml];rfl
   rw[ht,J9a]at he;rw[hb];cases hx:zQa s[m] with
   | true=>
    rw[hx,if_pos rfl]at he;exact .inr ⟨(m:Int),rfl,⟨m,rfl,by omega,he⟩,by simp,fun _ h=>h⟩
   | false=>
    rw[hx,if_neg (by simp)]at he;exact .inl ⟨((m+1:Nat):Int),rfl,m+1,rfl,hm,by rw[ht];exact he⟩) (i:Int) ⟨i,rfl,Nat.le_refl _,rfl⟩
 subst h2;exact ⟨k,h1,h3,h4⟩
theorem zab(s:Str)(hs:s.length<=1048576):YAa s=some (bif (colP s).2.2 then ((colP s).1,(colP s).2.1) else ([],[])):=by
 unfold YAa;rw[zIa s (fun i x=>if x==58 then some (bif fnP (wJa (s.take i)) then (wJa (s.take i),s.drop (i+1)) else (([]:Str),([]:Str))) else none) (.inl ()) .inr]
 .rw[V4a];unfold colP;rw[show s.findIdx (· ==58)=colI s from rfl];by_cases h:colI s < s.length
  .rw[if_pos h,if_pos h];simp only[Nat.zero_add,Option.bind_some,Option.elim_some,Sum.elim_inr]
  rw[if_neg h,if_neg h];rfl
 .unfold KVa;rw[zMa];rfl
 intro i c hc;have hi:=zOa hc;unfold KVa;rw[kia hc,zHa hc];simp only[cond_true,Option.bind_some];rw[K6a c 58 (by decide)];cases h10:c==58 with
 | false=>
  simp only[bne,h10,Bool.not_false,cond_true,Bool.false_eq_true,if_false,Option.elim_none];rw[sc i (by omega)]
 | true=>
  simp only[bne,h10,Bool.not_true,cond_false,if_true,Option.elim_some];obtain ⟨k,h1,h2,h3⟩:=ylb s hs i (by omega);rw[h1];simp only[Option.bind_some];rw[Zga (by omega),h3];simp only[Option.bind_some];rw[Qpa ⟨wJa (s.take i),[]⟩ (by have:=Zla (s.take i);simp at this ⊢;omega) (by simp)];simp only[Option.bind_some];rw[jPb _ (by have:=Zla (s.take i);simp at this ⊢;omega),sc i (by omega),jna (by omega)];cases fnP (wJa (s.take i)) <;> rfl
theorem jQb{s:Str}(h:(colP s).2.2=true):(colP s).1≠ []:=by
 unfold colP at h ⊢;split
 .rename_i hc;rw[if_pos hc]at h;intro he;have h:fnP (wJa (s.take (colI s)))=true:=h;have he:wJa (s.take (colI s))=[]:=he;rw[he]at h;cases h
 rename_i hc;rw[if_neg hc]at h;cases h
theorem colP_len(s:Str):(colP s).1.length<=s.length/\(colP s).2.1.length<=s.length:=by
 unfold colP;split
 .refine ⟨?_,by simp⟩;have:=Zla (s.take (colI s));simp at this ⊢;omega
 exact ⟨Zla s,by simp⟩
def QJa(l:List UInt8):List UInt8:=l.dropWhile zQa
theorem zbb(x:UInt8)(l:Str):wJa (x::l)=if zQa x=true/\wJa l=[] then [] else x::wJa l:=by
 unfold wJa;rw[List.reverse_cons,List.dropWhile_append];cases h:(l.reverse.dropWhile zQa).isEmpty with
 | true=>
  have h0:l.reverse.dropWhile zQa=[]:=List.isEmpty_iff.1 h;rw[h0,List.dropWhile_cons];cases hx:zQa x <;> simp
 | false=>
  have h0:l.reverse.dropWhile zQa≠ []:=fun e=>by rw[e]at h;cases h
  simp[h0]
theorem k6b:∀l:Str,QJa (wJa l)=wJa (QJa l)
 | []=>rfl
 | x::l=>by
  have ih:=k6b l;rw[zbb];cases hx:zQa x with
  | false=>
   rw[if_neg (by simp)];unfold QJa;rw[List.dropWhile_cons_of_neg (by simp[hx]),List.dropWhile_cons_of_neg (by simp[hx]),zbb,if_neg (by simp[hx])]
  | true=>
   rw[show QJa (x::l)=QJa l by unfold QJa;rw[List.dropWhile_cons_of_pos hx],<-ih];split
   .rename_i h;rw[h.2]
   unfold QJa;rw[List.dropWhile_cons_of_pos hx]
def ZRa(v:Str):Str:=wJa (QJa (v.map ksa))
theorem zcb(v:Str):(ZRa v).length<=v.length:=by
 unfold ZRa QJa;have h1:=Zla ((v.map ksa).dropWhile zQa);have h2:=(List.dropWhile_sublist zQa (l:=v.map ksa)).length_le;simp at h2;omega
theorem Trim_eq(v:Str)(hs:v.length<=1048576):((zVa v).bind fun v48=>ypa v48 [32,9])=some (ZRa v):=by
 unfold zVa ypa Lib.trimS Lib.trimLeftS Lib.trimRightS;rw[if_pos (by omega)];simp only[Option.bind_some];rw[if_pos ⟨by simp;omega,by decide,rfl⟩,k5b];show some (QJa (wJa (v.map ksa)))=_;rw[k6b];rfl
theorem cleaned1(s:Str)(hs:s.length<=1048576):iter (wna s) (0,([]:List UInt8))=some (s.map ksa):=by
 have h:=Zia s (fun i a=>(i,a)) (fun (a:List UInt8) c=>a++ [ksa c]) id (fun i a=>a.length=i) (body:=wna s) (fun a ha=>by
  unfold wna;rw[zMa];rfl) (fun i c a hc ha=>by
  have hi:=zOa hc;refine ⟨?_,by simp[ha]⟩;unfold wna;rw[kia hc,zHa hc];simp only[cond_true,Option.bind_some];rw[qWa c 0 (by decide),qWa c 13 (by decide)];have e:(bif c==0 then some true else some (c==13):Option Bool)=some (c==0 || c==13):=by cases c==0 <;> rfl
  rw[e];simp only[Option.bind_some];have e2:(bif (c==0 || c==13) then some (32:UInt8) else some c)=some (ksa c):=by
   unfold ksa;by_cases h0:c=0
   .subst h0;rfl
   by_cases h1:c=13
   .subst h1;rfl
   rw[beq_eq_false_iff_ne.2 h0,beq_eq_false_iff_ne.2 h1,if_neg (by simp[h0,h1])];rfl
  rw[e2];simp only[Option.bind_some];rw[kha (by simp;omega),sc i (by omega)];rfl) [] rfl
 rw[h.1];have:∀(l:Str) (a:List UInt8),l.foldl (fun a c=>a++ [ksa c]) a=a++l.map ksa:=by
  intro l;induction l with
  | nil=>intro a;simp
  | cons x l ih=>intro a;rw[List.foldl_cons,ih];simp
 rw[this];rfl
theorem wpb:∀(l:Str),l.length<=1048576->iter (yra) l=some (QJa l)
 | [],_=>zGa rfl
 | x::l,h=>by
  have hb:yra (x::l)=some (bif zQa x then .cont l else .out (x::l)):=by
   unfold yra;rw[show decide ((0:Int) < ((x::l).length:Int))=true by simp,show idx (x::l) 0=some x from rfl];simp only[cond_true,Option.bind_some,yTa];rw[show ((1:Int))=((1:Nat):Int) from rfl,jna (by simp)];cases zQa x <;> rfl
  cases hx:zQa x with
  | true=>
   rw[hx]at hb;rw[zNa hb,wpb l (by simp at h;omega)];unfold QJa;rw[List.dropWhile_cons_of_pos hx]
  | false=>
   rw[hx]at hb;rw[zGa hb];unfold QJa;rw[List.dropWhile_cons_of_neg (by simp[hx])]
theorem cleaned3(n:Nat):∀(l:Str),l.length=n->l.length<=1048576->iter (ysa) l=some (wJa l):=by
 induction n with
 | zero=>
  intro l hn _;have:=List.eq_nil_of_length_eq_zero hn;subst this;exact zGa rfl
 | succ n ih=>
  intro l hn h;obtain ⟨p,x,rfl⟩:∃p x,l=p++ [x]:=⟨l.dropLast,l.getLast (by rintro rfl;simp at hn),(List.dropLast_concat_getLast _).symm⟩;have hp:p.length=n:=by simpa using hn
  have hb:ysa (p++ [x])=some (bif zQa x then .cont p else .out (p++ [x])):=by
   unfold ysa;have e2:w64 (((p++ [x]).length:Int) - 1)=(p.length:Int):=by
    rw[show (((p++ [x]).length:Int) - 1)=(p.length:Int) by simp,ZWa _ (by omega)]
   rw[show decide ((0:Int) < ((p++ [x]).length:Int))=true by simp,e2,vcb p x []];simp only[cond_true,Option.bind_some,yTa];rw[Zga (by simp)];simp only[List.take_left];cases zQa x <;> rfl
  rw[J9a];cases hx:zQa x with
  | true=>
   rw[hx]at hb;rw[zNa hb,ih p hp (by omega),if_pos rfl]
  | false=>
   rw[hx]at hb;rw[zGa hb,if_neg (by simp)]
theorem k7b(s:Str)(hs:s.length<=1048576):Kga s=some (ZRa s):=by
 unfold Kga;rw[cleaned1 s hs];simp only[Option.bind_some];have h2:(QJa (s.map ksa)).length<=s.length:=by
  unfold QJa;have:=(List.dropWhile_sublist zQa (l:=s.map ksa)).length_le;simpa using this
 rw[wpb _ (by simpa using hs)];simp only[Option.bind_some];rw[cleaned3 _ _ rfl (by omega)];rfl
def ZHa:Nat->List UInt8->List UInt8
 | 0,_=>[]
 | _+1,[]=>[]
 | n+1,c::r=>if c=13 then 13::10::ZHa n (if r.head? =some 10 then r.drop 1 else r) else if c=10 then 13::10::ZHa n r else c::ZHa n r
theorem YKa:∀(n:Nat) (l:List UInt8),(ZHa n l).length<=2 * n
 | 0,_=>by simp[ZHa]
 | n+1,[]=>by simp[ZHa]
 | n+1,c::r=>by
  unfold ZHa;split
  .have:=YKa n (if r.head? =some 10 then r.drop 1 else r);simp only[List.length_cons];omega
  have:=YKa n r;split <;> simp only[List.length_cons] <;> omega
theorem V5a:∀(n m:Nat) (l:List UInt8),l.length<=n->l.length<=m->ZHa n l=ZHa m l
 | 0,m,l,h,_=>by
  obtain rfl:=List.eq_nil_of_length_eq_zero (by omega:l.length=0);cases m <;> rfl
 | n+1,m,[],_,_=>by cases m <;> rfl
 | n+1,0,c::r,_,h=>by simp at h
 | n+1,m+1,c::r,h1,h2=>by
  simp only[List.length_cons]at h1 h2;unfold ZHa;have hle:(if r.head? =some 10 then r.drop 1 else r).length<=r.length:=by
   split
   .simp
   exact Nat.le_refl _
  have e1:=V5a n m (if r.head? =some 10 then r.drop 1 else r) (by omega) (by omega);have e2:=V5a n m r (by omega) (by omega);rw[e1,e2]
theorem k8b(b:List UInt8)(hb:b.length<=1048576){body:Int × List UInt8->Option (Step (Int × List UInt8) (List UInt8))}
 (h0:∀a,body ((b.length:Int),a)=some (.out a))
 (h1:∀(i:Nat) c a,b[i]? =some c->a.length<=3000000->body ((i:Int),a)=some (.cont (if c=13 then (((if b[i+1]? =some 10 then i+2 else i+1:Nat):Int),a++ [13,10]) else if c=10 then (((i+1:Nat):Int),a++ [13,10]) else (((i+1:Nat):Int),a++ [c])))):
 ∀(n i:Nat) (a:List UInt8),i+n=b.length->a.length<=2 * i->iter body ((i:Int),a)=some (a++ZHa n (b.drop i)):=by
 intro n;induction n using Nat.strongRecOn with
 | _ n ih=>
  intro i a hn ha;cases n with
  | zero=>
   obtain rfl:i=b.length:=by omega
   rw[zGa (h0 a)];simp[ZHa]
  | succ n=>
   have hi:i < b.length:=by omega
   have hd:b.drop i=b[i]::b.drop (i+1):=List.drop_eq_getElem_cons hi;have hs:=h1 i b[i] a (List.getElem?_eq_getElem hi) (by omega);rw[zNa hs,hd];unfold ZHa;by_cases h13:b[i]=13
   .rw[if_pos h13,if_pos h13];have hh:(b.drop (i+1)).head? =b[i+1]? :=by rw[List.head?_drop]
    rw[hh];by_cases h10:b[i+1]? =some 10
    .rw[if_pos h10,if_pos h10];have hi1:=(List.getElem?_eq_some_iff.1 h10).1;have:=ih (n - 1) (by omega) (i+2) (a++ [13,10]) (by omega) (by simp;omega);rw[this,List.drop_drop,V5a (n - 1) n _ (by simp;omega) (by simp;omega)];simp
    rw[if_neg h10,if_neg h10];have:=ih n (by omega) (i+1) (a++ [13,10]) (by omega) (by simp;omega);rw[this];simp
   rw[if_neg h13,if_neg h13];by_cases h10:b[i]=10
   .rw[if_pos h10,if_pos h10,ih n (by omega) (i+1) (a++ [13,10]) (by omega) (by simp;omega)];simp
   rw[if_neg h10,if_neg h10,ih n (by omega) (i+1) (a++ [b[i]]) (by omega) (by simp;omega)];simp
theorem jRa(c k:UInt8):(c==k)=decide (c=k):=by rw[Bool.eq_iff_iff];simp
theorem jRb(b:List UInt8)(i:Nat)(hb:b.length<=1048576)(hi:i < b.length):(bif decide (w64 ((i:Int)+1) < (b.length:Int)) then (idx b (w64 ((i:Int)+1))).bind fun v11=>some ((v11.toNat:Int)==10) else some false)=some (decide (b[i+1]? =some 10)):=by
 rw[sc i (by omega)];by_cases h:i+1 < b.length
 .rw[decide_eq_true (by omega),w3a,List.getElem?_eq_getElem h];simp only[cond_true,Option.bind_some];rw[qWa _ 10 (by decide),jRa]
  congr 1
  rw[Bool.eq_iff_iff];simp
 rw[decide_eq_false (by omega),List.getElem?_eq_none (by omega)];rfl
theorem WHa(b:List UInt8)(hb:b.length<=1048576):wEa b=some (ZHa b.length b):=by
 unfold wEa;have:=k8b b hb (body:=q6a b) (fun a=>by unfold q6a;rw[zMa];rfl) (fun i c a hc ha=>by
  have hi:=zOa hc;unfold q6a;dsimp only;rw[kia hc,zHa hc,jRb b i hb hi];simp only[cond_true,Option.bind_some];rw[qWa c 13 (by decide),qWa c 10 (by decide),jRa,jRa];rw[kha (show a.length+([13,10]:List UInt8).length<=_ by simp;omega),kha (show a.length+ [c].length<=_ by simp;omega)];by_cases h13:c=13
  .rw[if_pos h13,decide_eq_true h13];simp only[cond_true,Option.bind_some];by_cases h10:b[i+1]? =some 10
   .rw[if_pos h10,decide_eq_true h10];simp only[cond_true,Option.bind_some];rw[sc i (by omega),sc (i+1) (by omega)]
   rw[if_neg h10,decide_eq_false h10];simp only[cond_false,Option.bind_some];rw[sc i (by omega)]
  rw[if_neg h13,decide_eq_false h13];simp only[cond_false,Option.bind_some];by_cases h10:c=10
  .rw[if_pos h10,decide_eq_true h10];simp only[cond_true,Option.bind_some];rw[sc i (by omega)]
  rw[if_neg h10,decide_eq_false h10];simp only[cond_false,Option.bind_some];rw[sc i (by omega)]) b.length 0 [] (by omega) (by simp)
 rw[show ((0:Int))=((0:Nat):Int) from rfl,this];rfl
theorem jSb(b:List UInt8)(hb:b.length<=1048576)(i:Nat)(hi:i<=b.length):iter (vaa b) ((i:Int),([]:List UInt8))=some (ZHa (b.drop i).length (b.drop i)):=by
 have:=k8b b hb (body:=vaa b) (fun a=>by unfold vaa;rw[zMa];rfl) (fun i c a hc ha=>by
  have hi:=zOa hc;unfold vaa;dsimp only;rw[kia hc,zHa hc,jRb b i hb hi];simp only[cond_true,Option.bind_some];rw[qWa c 13 (by decide),qWa c 10 (by decide),jRa,jRa];rw[kha (show a.length+([13,10]:List UInt8).length<=_ by simp;omega),kha (show a.length+ [c].length<=_ by simp;omega)];by_cases h13:c=13
  .rw[if_pos h13,decide_eq_true h13];simp only[cond_true,Option.bind_some];by_cases h10:b[i+1]? =some 10
   .rw[if_pos h10,decide_eq_true h10];simp only[cond_true,Option.bind_some];rw[sc i (by omega),sc (i+1) (by omega)]
   rw[if_neg h10,decide_eq_false h10];simp only[cond_false,Option.bind_some];rw[sc i (by omega)]
  rw[if_neg h13,decide_eq_false h13];simp only[cond_false,Option.bind_some];by_cases h10:c=10
  .rw[if_pos h10,decide_eq_true h10];simp only[cond_true,cond_false,Option.bind_some];rw[sc i (by omega)]
  rw[if_neg h10,decide_eq_false h10];simp only[cond_false,Option.bind_some];rw[sc i (by omega)]) (b.drop i).length i [] (by simp;omega) (by simp)
 rw[this];rfl
def vob{S R:Type}(step:S->S ⊕ R)(dflt:R):Nat->S->R
 | 0,_=>dflt
 | n+1,s=>match step s with | .inl s' =>vob step dflt n s' | .inr r=>r
theorem Vla{S R A B:Type}(enc:S->A)(out:R->B)(step:S->S ⊕ R)(dflt:R)(Inv:S->Prop)(m:S->Nat){body:A->Option (Step A B)}
 (h:∀s,Inv s->body (enc s)=some (Sum.elim (fun s' =>.cont (enc s')) (fun r=>.out (out r)) (step s))/\∀s',step s=.inl s' ->Inv s' /\m s' < m s):
 ∀(n:Nat) (s:S),Inv s->m s < n->iter body (enc s)=some (out (vob step dflt n s)):=by
 intro n;induction n with
 | zero=>intro s _ h2;omega
 | succ n ih=>
  intro s hs hm;obtain ⟨h1,h2⟩:=h s hs;unfold vob;cases hst:step s with
  | inl s' =>
   rw[hst]at h1;obtain ⟨h3,h4⟩:=h2 s' hst;rw[zNa h1];exact ih s' h3 (by omega)
  | inr r=>
   rw[hst]at h1;exact zGa h1
theorem k9b{S R:Type}(step:S->S ⊕ R)(dflt:R)(Inv:S->Prop)(Post:R->Prop)(m:S->Nat)
 (h:∀s,Inv s->(∀s',step s=.inl s' ->Inv s' /\m s' < m s)/\∀r,step s=.inr r->Post r):∀(n:Nat) (s:S),Inv s->m s < n->Post (vob step dflt n s):=by
 intro n;induction n with
 | zero=>intro s _ h2;omega
 | succ n ih=>
  intro s hs hm;obtain ⟨h1,h2⟩:=h s hs;unfold vob;cases hst:step s with
  | inl s' =>exact ih s' (h1 s' hst).1 (by have:=(h1 s' hst).2;omega)
  | inr r=>exact h2 r hst
def QKa(l:List zia)(t:Str):List zia:=match l[l.length - 1]? with
 | some f=>l.set (l.length - 1) ⟨f.Name,f.Value++t⟩
 | none=>l
def w5a(b:List UInt8)(s:Nat × List zia):(Nat × List zia) ⊕ (Nat × List zia):=
 if s.1 < b.length then
  match (yMa (b.drop s.1)).1 with
  | []=>.inr (s.1+(yMa (b.drop s.1)).2,s.2)
  | c::_=>if zQa c=true/\s.2≠ [] then .inl (s.1+(yMa (b.drop s.1)).2,QKa s.2 (yMa (b.drop s.1)).1)
   else if (colP (yMa (b.drop s.1)).1).2.2=true then .inl (s.1+(yMa (b.drop s.1)).2,s.2++ [⟨(colP (yMa (b.drop s.1)).1).1,(colP (yMa (b.drop s.1)).1).2.1⟩])
   else .inr s
 else .inr s
def HInv(b:List UInt8)(s:Nat × List zia):Prop:=s.1<=b.length/\s.2.length<=s.1/\∀f∈s.2,f.Name.length<=s.1/\f.Value.length<=s.1
theorem YLa(b:List UInt8):(yMa b).1.length<=(yMa b).2:=by
 unfold yMa;split
 .unfold chop;split <;> simp <;> omega
 exact Nat.le_refl _
theorem YMa{l:List zia}(h:l≠ []):∃f,l[l.length - 1]? =some f/\f∈l:=by
 have:=List.length_pos_iff.2 h;exact ⟨l[l.length - 1]'(by omega),List.getElem?_eq_getElem (by omega),List.getElem_mem _⟩
theorem YNa{b:List UInt8}{s:Nat × List zia}(h:HInv b s):(∀s',w5a b s=.inl s' ->HInv b s' /\b.length - s'.1 < b.length - s.1)/\∀r,w5a b s=.inr r->HInv b r:=by
 obtain ⟨h1,h2,h3⟩:=h;unfold w5a;by_cases hl:s.1 < b.length
 .rw[if_pos hl];have hne:b.drop s.1≠ []:=by
   intro e;have:=congrArg List.length e;simp at this;omega
  obtain ⟨p1,p2,p3⟩:=YJa hne;have p4:=YLa (b.drop s.1);rw[List.length_drop]at p2;generalize yMa (b.drop s.1)=L at p1 p2 p3 p4;obtain ⟨t,n⟩:=L;dsimp only at p1 p2 p3 p4 ⊢;cases t with
  | nil=>
   refine ⟨fun s' e=>(by cases e),fun r e=>?_⟩;cases e;exact ⟨by show s.1+n<=_;omega,by show s.2.length<=s.1+n;omega,fun f hf=>by have:=h3 f hf;show _<=s.1+n/\_<=s.1+n;omega⟩
  | cons c t=>
   dsimp only;by_cases hb:zQa c=true/\s.2≠ []
   .rw[if_pos hb];refine ⟨fun s' e=>?_,fun r e=>by cases e⟩;cases e;obtain ⟨f,hf,hm⟩:=YMa hb.2;have hset:QKa s.2 (c::t)=s.2.set (s.2.length - 1) ⟨f.Name,f.Value++(c::t)⟩:=by unfold QKa;rw[hf]
    refine ⟨⟨by show s.1+n<=_;omega,?_,fun g hg=>?_⟩,by show b.length - (s.1+n) < _;omega⟩
    .show (QKa s.2 (c::t)).length<=s.1+n;rw[hset,List.length_set];omega
    have hg:g∈QKa s.2 (c::t):=hg;rw[hset]at hg;show _<=s.1+n/\_<=s.1+n;rcases List.mem_or_eq_of_mem_set hg with h4 | rfl
    .have:=h3 g h4;omega
    have:=h3 f hm;simp only[List.length_append];omega
   rw[if_neg hb];by_cases hc:(colP (c::t)).2.2=true
   .rw[if_pos hc];refine ⟨fun s' e=>?_,fun r e=>by cases e⟩;cases e;obtain ⟨q1,q2⟩:=colP_len (c::t);refine ⟨⟨by show s.1+n<=_;omega,by simp;omega,fun g hg=>?_⟩,by show b.length - (s.1+n) < _;omega⟩;rcases List.mem_append.1 hg with h4 | h4
    .have:=h3 g h4;show _<=s.1+n/\_<=s.1+n;omega
    rw[List.mem_singleton]at h4;subst h4;show _<=s.1+n/\_<=s.1+n;dsimp only;omega
   rw[if_neg hc];exact ⟨fun s' e=>(by cases e),fun r e=>(by cases e;exact ⟨h1,h2,h3⟩)⟩
 rw[if_neg hl];exact ⟨fun s' e=>(by cases e),fun r e=>(by cases e;exact ⟨h1,h2,h3⟩)⟩
def encH(s:Nat × List zia):Int × List zia:=((s.1:Int),s.2)
theorem wqb{l:List zia}(h:l≠ [])(hl:l.length<=1048576):w64 ((l.length:Int) - 1)=((l.length - 1:Nat):Int):=by
 have:=List.length_pos_iff.2 h;rw[show ((l.length:Int) - 1)=((l.length - 1:Nat):Int) by omega,ZWa _ (by omega)]
theorem jTb(b:List UInt8)(hb:b.length<=12000)(s:Nat × List zia)(h:HInv b s):vZa b (encH s)=some (Sum.elim (fun s' =>.cont (encH s')) (fun r=>.out (encH r)) (w5a b s)):=by
 obtain ⟨h1,h2,h3⟩:=h;unfold vZa w5a encH;by_cases hl:s.1 < b.length
 .rw[if_pos hl,decide_eq_true (by omega)];have hne:b.drop s.1≠ []:=by
   intro e;have:=congrArg List.length e;simp at this;omega
  obtain ⟨p1,p2,p3⟩:=YJa hne;have p4:=YLa (b.drop s.1);have hline:=JCa (b.drop s.1) (by simp;omega);rw[List.length_drop]at p2 p3;simp only[cond_true];rw[jna (by omega)];simp only[Option.bind_some];rw[hline];generalize yMa (b.drop s.1)=L at p1 p2 p3 p4;obtain ⟨t,n⟩:=L;dsimp only at p1 p2 p3 p4 ⊢;simp only[Option.bind_some];rw[jub _ _ (by omega)];cases t with
  | nil=>rfl
  | cons c t=>
   rw[show ((c::t)==([]:Str))=false from rfl,show idx (c::t) 0=some c from rfl];simp only[cond_false,Option.bind_some,jPa];have e0:(bif zQa c then some (decide ((0:Int) < (s.2.length:Int))) else some false)=some (decide (zQa c=true/\s.2≠ [])):=by
    cases zQa c with
    | false=>rfl
    | true=>
     simp only[cond_true,Option.some.injEq];rw[Bool.eq_iff_iff];simp[List.length_pos_iff]
   rw[e0];simp only[Option.bind_some];by_cases hbl:zQa c=true/\s.2≠ []
   .rw[if_pos hbl,decide_eq_true hbl];obtain ⟨f,hf,hm⟩:=YMa hbl.2;have hv:=h3 f hm;simp only[cond_true];rw[wqb hbl.2 (by omega),w3a,hf];simp only[Option.bind_some];rw[Zha (by omega)];simp only[Option.bind_some];unfold QKa;rw[hf];rfl
   rw[if_neg hbl,decide_eq_false hbl];simp only[cond_false];rw[WGa _ (by omega)];simp only[Option.bind_some];cases hc:(colP (c::t)).2.2 with
   | false=>rfl
   | true=>
    rw[if_pos rfl];simp only[Bool.not_true,cond_false];rw[kha (by simp;omega)];rfl
 rw[if_neg hl,decide_eq_false (by omega)];rfl
theorem ref_body(b:List UInt8)(hb:b.length<=12000)(s:Nat × List zia)(h:HInv b s):v1a b (encH s)=some (Sum.elim (fun s' =>.cont (encH s')) (fun r=>.out (encH r)) (w5a b s)):=by
 obtain ⟨h1,h2,h3⟩:=h;unfold v1a w5a encH;by_cases hl:s.1 < b.length
 .rw[if_pos hl,decide_eq_true (by omega)];have hne:b.drop s.1≠ []:=by
   intro e;have:=congrArg List.length e;simp at this;omega
  obtain ⟨p1,p2,p3⟩:=YJa hne;have p4:=YLa (b.drop s.1);have hline:=kib (b.drop s.1) (by simp;omega);rw[List.length_drop]at p2 p3;simp only[cond_true];rw[jna (by omega)];simp only[Option.bind_some];rw[hline];generalize yMa (b.drop s.1)=L at p1 p2 p3 p4;obtain ⟨t,n⟩:=L;dsimp only at p1 p2 p3 p4 ⊢;simp only[Option.bind_some];rw[jub _ _ (by omega)];cases t with
  | nil=>rfl
  | cons c t=>
   rw[show ((c::t)==([]:Str))=false from rfl,show idx (c::t) 0=some c from rfl];simp only[cond_false,Option.bind_some,yTa];by_cases hs:s.2=[]
   .have e1:w64 ((s.2.length:Int) - 1)= -1:=by rw[hs];rfl
    rw[e1,if_neg (fun e=>e.2 hs)];have e0:(bif zQa c then some ((-1:Int),decide ((0:Int)<= -1)) else some (-1,false))=some (-1,false):=by cases zQa c <;> rfl
    rw[e0];simp only[Option.bind_some,cond_false];rw[zab _ (by omega)];simp only[Option.bind_some];cases hc:(colP (c::t)).2.2 with
    | false=>rfl
    | true=>
     have hn:=jQb hc;rw[if_pos rfl];simp only[cond_true];rw[beq_eq_false_iff_ne.2 hn];simp only[cond_false];rw[kha (by simp;omega)];rfl
   rw[wqb hs (by omega)];have e0:(bif zQa c then some (((s.2.length - 1:Nat):Int),decide ((0:Int)<=((s.2.length - 1:Nat):Int))) else some (((s.2.length - 1:Nat):Int),false))=some (((s.2.length - 1:Nat):Int),zQa c):=by
    cases zQa c with
    | false=>rfl
    | true=>simp only[cond_true];rw[decide_eq_true (by omega)]
   rw[e0];simp only[Option.bind_some];cases hbl:zQa c with
   | true=>
    rw[if_pos ⟨rfl,hs⟩];obtain ⟨f,hf,hm⟩:=YMa hs;have hv:=h3 f hm;simp only[cond_true];rw[w3a,hf];simp only[Option.bind_some];rw[Zha (by omega)];simp only[Option.bind_some];unfold QKa;rw[hf];rfl
   | false=>
    rw[if_neg (by simp)];simp only[cond_false];rw[zab _ (by omega)];simp only[Option.bind_some];cases hc:(colP (c::t)).2.2 with
    | false=>rfl
    | true=>
     have hn:=jQb hc;rw[if_pos rfl];simp only[cond_true];rw[beq_eq_false_iff_ne.2 hn];simp only[cond_false];rw[kha (by simp;omega)];rfl
 rw[if_neg hl,decide_eq_false (by omega)];rfl
def yza(b:List UInt8):Nat × List zia:=vob (w5a b) (0,[]) (b.length+1) (0,[])
theorem hinv0(b:List UInt8):HInv b (0,[]):=⟨Nat.zero_le _,Nat.le_refl _,fun f hf=>by cases hf⟩
theorem YOa(b:List UInt8):HInv b (yza b):=k9b (w5a b) (0,[]) (HInv b) (HInv b) (fun s=>b.length - s.1) (fun s hs=>YNa hs) _ _ (hinv0 b) (by show b.length - 0 < _;omega)
theorem qab(b:List UInt8)(hb:b.length<=12000):iter (vZa b) ((0,([]:List zia)))=some (encH (yza b))/\iter (v1a b) ((0,([]:List zia)))=some (encH (yza b)):=
 ⟨Vla encH encH (w5a b) (0,[]) (HInv b) (fun s=>b.length - s.1) (fun s hs=>⟨jTb b hb s hs,(YNa hs).1⟩) _ (0,[]) (hinv0 b) (by show b.length - 0 < _;omega),
  Vla encH encH (w5a b) (0,[]) (HInv b) (fun s=>b.length - s.1) (fun s hs=>⟨ref_body b hb s hs,(YNa hs).1⟩) _ (0,[]) (hinv0 b) (by show b.length - 0 < _;omega)⟩
def woa(f:zia):zia:=⟨f.Name,ZRa f.Value⟩
def mixF(l:List zia)(i:Nat):List zia:=(l.take i).map woa++l.drop i
theorem jUb{l:List zia}{i:Nat}{x:zia}(h:l[i]? =some x):(mixF l i)[i]? =some x:=by
 have hi:=(List.getElem?_eq_some_iff.1 h).1;unfold mixF;rw[List.getElem?_append_right (by simp;omega)];simp only[List.length_map,List.length_take,List.getElem?_drop];rw[show i+(i - min i l.length)=i by omega];exact h
theorem wrb(l:List zia)(i:Nat):(mixF l i).length=l.length:=by simp[mixF];omega
theorem qbb{l:List zia}{i:Nat}{x:zia}(h:l[i]? =some x):(mixF l i).set i (woa x)=mixF l (i+1):=by
 have hi:=(List.getElem?_eq_some_iff.1 h).1;have hx:=(List.getElem?_eq_some_iff.1 h).2;unfold mixF;rw[List.set_append_right _ _ (by simp;omega)];simp only[List.length_map,List.length_take];rw[show i - min i l.length=0 by omega,List.take_add_one,h,List.drop_eq_getElem_cons hi,hx];simp
theorem wsb(l:List zia):mixF l l.length=l.map woa:=by simp[mixF]
theorem qcb(l:List zia):mixF l 0=l:=by simp[mixF]
def jVb(l:List zia)(i:Nat):Nat ⊕ Option Nat:=match l[i]? with
 | some f=>if 4000 < (ZRa f.Value).length then .inr (some i) else .inl (i+1)
 | none=>.inr none
def vout(l:List zia):Option Nat->(List zia) ⊕ ((List zia) × Int × zta)
 | none=>.inl (l.map woa)
 | some i=>.inr ([],0,⟨1,(i:Int)⟩)
def valsP(l:List zia):Option Nat:=vob (jVb l) none (l.length+1) 0
theorem jWb(p:Int × List zia)(hl:p.2.length<=1048576)(hv:∀f∈p.2,f.Value.length<=1048576):iter (v0a p) ((0,p.2))=some (vout p.2 (valsP p.2)):=by
 have h:=Vla (fun i:Nat=>((i:Int),mixF p.2 i)) (vout p.2) (jVb p.2) none (fun i=>i<=p.2.length) (fun i=>p.2.length - i) (body:=v0a p) (fun i hi=>?_) (p.2.length+1) 0 (Nat.zero_le _) (by omega)
 .rw[qcb]at h;exact h
 unfold v0a jVb;cases hf:p.2[i]? with
 | none=>
  have:i=p.2.length:=by have:=List.getElem?_eq_none_iff.1 hf;omega
  subst this;dsimp only;rw[decide_eq_false (by omega),wsb];exact ⟨rfl,fun s' e=>by cases e⟩
 | some f=>
  have hi2:=zOa hf;have hfv:=hv f (List.mem_of_getElem? hf);dsimp only;rw[decide_eq_true (by omega),zHa (jUb hf)];simp only[cond_true,Option.bind_some];have ht:=Trim_eq f.Value hfv;have hlt:(ZRa f.Value).length<=1048576:=Nat.le_trans (zcb _) hfv;cases hr:zVa f.Value with
  | none=>rw[hr]at ht;cases ht
  | some v=>
   rw[hr]at ht;simp only[Option.bind_some]at ht ⊢;rw[ht];simp only[Option.bind_some];by_cases h4:4000 < (ZRa f.Value).length
   .rw[if_pos h4,decide_eq_true (by omega)];exact ⟨rfl,fun s' e=>by cases e⟩
   rw[if_neg h4,decide_eq_false (by omega)];simp only[cond_false];rw[sc i (by omega),Int.toNat_natCast];refine ⟨?_,fun s' e=>by cases e;exact ⟨by omega,by omega⟩⟩;rw[show (⟨f.Name,ZRa f.Value⟩:zia)=woa f from rfl,qbb hf];rfl
theorem vals_ref(l:List zia)(hl:l.length<=1048576)(hv:∀f∈l,f.Value.length<=1048576):iter (v2a) ((0,l))=some (l.map woa):=by
 have h:=Vla (fun i:Nat=>((i:Int),mixF l i)) (fun _:Unit=>l.map woa) (fun i=>if i < l.length then .inl (i+1) else .inr ()) () (fun i=>i<=l.length) (fun i=>l.length - i) (body:=v2a) (fun i hi=>?_) (l.length+1) 0 (Nat.zero_le _) (by omega)
 .rw[qcb]at h;exact h
 unfold v2a;by_cases hi2:i < l.length
 .have hf:l[i]? =some l[i]:=List.getElem?_eq_getElem hi2;rw[if_pos hi2];dsimp only;rw[wrb,decide_eq_true (by omega),zHa (jUb hf)];simp only[cond_true,Option.bind_some];rw[k7b _ (hv _ (List.getElem_mem _))];simp only[Option.bind_some];rw[sc i (by omega),Int.toNat_natCast];refine ⟨?_,fun s' e=>by cases e;exact ⟨by omega,by omega⟩⟩;rw[show (⟨l[i].Name,ZRa l[i].Value⟩:zia)=woa l[i] from rfl,qbb hf];rfl
 rw[if_neg hi2];obtain rfl:i=l.length:=by omega
 dsimp only;rw[wrb,decide_eq_false (by omega),wsb];exact ⟨rfl,fun s' e=>by cases e⟩
theorem ymb(l:List zia):(valsP l=none->∀f∈l,(woa f).Value.length<=4000)/\(valsP l≠none->∃f∈l,4000 < (woa f).Value.length):=by
 refine k9b (jVb l) none (fun i=>i<=l.length/\∀j f,j < i->l[j]? =some f->(woa f).Value.length<=4000) (fun r=>(r=none->∀f∈l,(woa f).Value.length<=4000)/\(r≠none->∃f∈l,4000 < (woa f).Value.length)) (fun i=>l.length - i) ?_ _ 0 ⟨Nat.zero_le _,fun j f h=>by omega⟩ (by omega);rintro i ⟨hi,hj⟩;unfold jVb;cases hf:l[i]? with
 | none=>
  refine ⟨fun s' e=>(by cases e),fun r e=>?_⟩;cases e;refine ⟨fun _ f hm=>?_,fun h=>absurd rfl h⟩;obtain ⟨j,hjf⟩:=List.getElem?_of_mem hm;have:=List.getElem?_eq_none_iff.1 hf;exact hj j f (by have:=zOa hjf;omega) hjf
 | some f=>
  dsimp only;by_cases h4:4000 < (ZRa f.Value).length
  .rw[if_pos h4];refine ⟨fun s' e=>(by cases e),fun r e=>?_⟩;cases e;exact ⟨fun h=>(by cases h),fun _=>⟨f,List.mem_of_getElem? hf,h4⟩⟩
  rw[if_neg h4];refine ⟨fun s' e=>?_,fun r e=>by cases e⟩;cases e;have:=zOa hf;refine ⟨⟨by omega,fun j g hji hg=>?_⟩,by omega⟩;by_cases e:j=i
  .subst e;rw[hf]at hg;cases hg;exact Nat.le_of_not_lt h4
  exact hj j g (by omega) hg
def zeroM:zBa:=⟨[],[]⟩
def rawM(b:List UInt8):zBa:=⟨(yza b).2.map woa,ZHa (b.drop (yza b).1).length (b.drop (yza b).1)⟩
def ZIa(b:List UInt8):zBa × Bool:=
 if 60 < (yza b).2.length then (zeroM,false) else if (msgF (rawM b)).Code=0 then (rawM b,true) else (zeroM,false)
theorem zdb(b:List UInt8)(hb:b.length<=12000):jLb (rawM b):=by
 obtain ⟨h1,h2,h3⟩:=YOa b;refine ⟨⟨by show ((yza b).2.map woa).length<=_;simp;omega,fun f hf=>?_⟩,?_⟩
 .have hf:f∈(yza b).2.map woa:=hf;obtain ⟨g,hg,rfl⟩:=List.mem_map.1 hf;have:=h3 g hg;have h4:=zcb g.Value;show g.Name.length<=_/\(ZRa g.Value).length<=_;omega
 show (ZHa _ _).length<=_;have:=YKa (b.drop (yza b).1).length (b.drop (yza b).1);simp at this ⊢;omega
theorem JDa(b:List UInt8)(hb:b.length<=12000):jka b=some (ZIa b):=by
 obtain ⟨h1,h2,h3⟩:=YOa b;unfold jka;rw[(qab b hb).2];simp only[Option.bind_some,encH];unfold ZIa;by_cases h60:60 < (yza b).2.length
 .rw[if_pos h60,decide_eq_true (by omega)];rfl
 rw[if_neg h60,decide_eq_false (by omega)];simp only[cond_false];rw[vals_ref _ (by omega) (fun f hf=>by have:=h3 f hf;omega)];simp only[Option.bind_some];rw[jSb b (by omega) _ h1];simp only[Option.bind_some];rw[show (⟨(yza b).2.map woa,ZHa (b.drop (yza b).1).length (b.drop (yza b).1)⟩:zBa)=rawM b from rfl,V2a _ (zdb b hb)];simp only[Option.bind_some];by_cases h0:(msgF (rawM b)).Code=0
 .rw[if_pos h0,h0];rfl
 rw[if_neg h0,bne_iff_ne.2 h0];rfl
theorem YPa(b:List UInt8)(hb:b.length<=12000):∃f:zta,yqa b=some ((ZIa b).1,f)/\(f.Code !=0)= !(ZIa b).2:=by
 obtain ⟨h1,h2,h3⟩:=YOa b;unfold yqa ZCa;rw[decide_eq_false (by omega),(qab b hb).1];simp only[cond_false,Option.bind_some,encH];unfold ZIa;by_cases h60:60 < (yza b).2.length
 .rw[if_pos h60,decide_eq_true (by omega)];exact ⟨⟨2, -2⟩,rfl,rfl⟩
 rw[if_neg h60,decide_eq_false (by omega)];simp only[cond_false];rw[jWb ((((yza b).1:Nat):Int),(yza b).2) (by show (yza b).2.length<=_;omega) (fun f hf=>by have:=h3 f hf;omega)];simp only[Option.bind_some];obtain ⟨v1,v2⟩:=ymb (yza b).2;cases hv:valsP (yza b).2 with
 | none=>
  simp only[vout,Sum.elim_inl,qga,Option.bind_some,kea];rw[show ((0:Int) !=0)=false from rfl];simp only[cond_false];rw[jna h1];simp only[Option.bind_some];rw[WHa _ (by simp;omega)];simp only[Option.bind_some];rw[show (⟨(yza b).2.map woa,ZHa (b.drop (yza b).1).length (b.drop (yza b).1)⟩:zBa)=rawM b from rfl,QGa _ (zdb b hb)];simp only[Option.bind_some];by_cases h0:(msgF (rawM b)).Code=0
  .rw[if_pos h0,h0];exact ⟨⟨0,0⟩,rfl,rfl⟩
  rw[if_neg h0,bne_iff_ne.2 h0];exact ⟨msgF (rawM b),rfl,by rw[bne_iff_ne.2 h0];rfl⟩
 | some i=>
  have h0:¬(msgF (rawM b)).Code=0:=by
   intro h0;obtain ⟨f,hf,h4⟩:=v2 (by rw[hv];simp);have hh:(K9a (rawM b).Fields).Code=0:=by
    by_cases hz:(K9a (rawM b).Fields).Code=0
    .exact hz
    unfold msgF at h0;rw[if_pos (by simp[hz])]at h0;exact h0
   have:=(kcb ((KYa _ hh).2.2 (woa f) (List.mem_map.2 ⟨f,hf,rfl⟩))).2.1;omega
  rw[if_neg h0];exact ⟨⟨1,(i:Int)⟩,rfl,rfl⟩
theorem kDa{u:Nat}(h:u < 10):Lib.decDigits u=[UInt8.ofNat (48+u)]:=by rw[Lib.decDigits,dif_pos h]
theorem KZa{u:Nat}(h:¬u < 10):Lib.decDigits u=Lib.decDigits (u / 10)++Lib.decDigits (u % 10):=by
 rw[Lib.decDigits,dif_neg h,kDa (show u % 10 < 10 by omega)]
theorem Vma:∀(k u:Nat),u < 10 ^ (k+1)->(Lib.decDigits u).length<=k+1
 | 0,u,h=>by rw[kDa (by simpa using h)];simp
 | k+1,u,h=>by
  by_cases h10:u < 10
  .rw[kDa h10];simp
  have:=Vma k (u / 10) (by rw[Nat.pow_succ]at h;omega);rw[KZa h10,kDa (show u % 10 < 10 by omega)];simp;omega
theorem wtb(u:Nat):1<=(Lib.decDigits u).length:=by
 by_cases h10:u < 10
 .rw[kDa h10];simp
 rw[KZa h10,kDa (show u % 10 < 10 by omega)];simp
theorem iQuo10{u:Nat}(h:u<=9223372036854775807):iQuo (u:Int) 10=((u / 10:Nat):Int):=by
 unfold iQuo;rw[Int.tdiv_eq_ediv_of_nonneg (by omega),q0a (by omega) (by omega)];omega
theorem iRem10(u:Nat):iRem (u:Int) 10=((u % 10:Nat):Int):=by
 unfold iRem;rw[Int.tmod_eq_emod_of_nonneg (by omega)];omega
theorem jXb:∀u:Fin 10,cut ([48,49,50,51,52,53,54,55,56,57]:Str) (u.val:Int) (w64 ((u.val:Int)+1))=some [UInt8.ofNat (48+u.val)]:=by decide
theorem kPa{f g:Int->Option Str}(hf:∀n:Int,f n=bif decide (n < 10) then (cut ([48,49,50,51,52,53,54,55,56,57]:Str) n (w64 (n+1))).bind fun v2=>some v2 else (g (iQuo n 10)).bind fun v4=>(g (iRem n 10)).bind fun v6=>(cat v4 v6).bind fun v8=>some v8)
 (k:Nat) (hk:k<=17) (hg:∀u:Nat,u < 10 ^ k->1<=k->g (u:Int)=some (Lib.decDigits u)) (u:Nat) (hu:u < 10 ^ (k+1)):f (u:Int)=some (Lib.decDigits u):=by
 have hp:10 ^ (k+1)<=10 ^ 18:=Nat.pow_le_pow_right (by omega) (by omega);rw[hf];by_cases h10:u < 10
 .rw[decide_eq_true (by omega:(u:Int) < 10),cond_true,jXb ⟨u,h10⟩,kDa h10];rfl
 have hk1:1<=k:=by
  rcases Nat.eq_zero_or_pos k with rfl | h
  .simp at hu;omega
  exact h
 have h9:10 ^ 1<=10 ^ k:=Nat.pow_le_pow_right (by omega) hk1;rw[decide_eq_false (by omega:¬(u:Int) < 10),cond_false,iQuo10 (by omega),iRem10,hg _ (by rw[Nat.pow_succ]at hu;omega) hk1,hg _ (by omega) hk1,KZa h10];have h1:=Vma 17 (u / 10) (by omega);have h2:=Vma 17 (u % 10) (by omega);simp only[Option.bind_some];rw[Zha (by omega)];rfl
theorem YQa(u:Nat)(h:u < 10 ^ 12):yJa (u:Int)=some (Lib.decDigits u):=by
 have h1:=kPa (f:=y9a) (g:=y8a) (fun _=>rfl) 0 (by omega) (fun _ _ h=>by omega);have h2:=kPa (f:=jaa) (fun _=>rfl) 1 (by omega) (fun u hu _=>h1 u hu);have h3:=kPa (f:=jba) (fun _=>rfl) 2 (by omega) (fun u hu _=>h2 u hu);have h4:=kPa (f:=jca) (fun _=>rfl) 3 (by omega) (fun u hu _=>h3 u hu);have h5:=kPa (f:=jda) (fun _=>rfl) 4 (by omega) (fun u hu _=>h4 u hu);have h6:=kPa (f:=jea) (fun _=>rfl) 5 (by omega) (fun u hu _=>h5 u hu);have h7:=kPa (f:=jfa) (fun _=>rfl) 6 (by omega) (fun u hu _=>h6 u hu);have h8:=kPa (f:=jga) (fun _=>rfl) 7 (by omega) (fun u hu _=>h7 u hu);have h9:=kPa (f:=jha) (fun _=>rfl) 8 (by omega) (fun u hu _=>h8 u hu);have h10:=kPa (f:=yia) (fun _=>rfl) 9 (by omega) (fun u hu _=>h9 u hu);have h11:=kPa (f:=yja) (fun _=>rfl) 10 (by omega) (fun u hu _=>h10 u hu);exact kPa (f:=yJa) (fun _=>rfl) 11 (by omega) (fun u hu _=>h11 u hu) u h
theorem Kna(u:Nat)(h:u<=9223372036854775807):z5a (u:Int)=some (Lib.decDigits u):=by
 unfold z5a;rw[if_pos (by omega),Lib.itoa_nonneg]
end Go.Proofs.YtmmjihadplknjaaGreatDoor
