/- Part 3 of the proof of the law ServerNewMatchesSpec: what it needs. -/
import Derived.Test.YtmmjihadplknjaaGreatDoorKServerNewMatchesSpec2
import Derived.Lib.IndexMore
import Derived.Lib.IndexAny
import Derived.Lib.Atoi
import Derived.Lib.Join
import Derived.Lib.Repeat
import Derived.Lib.Split
import Derived.Lib.FieldsP
import Derived.Lib.Strings
import Derived.Shelf.Strings.SlTrimAscii
import Derived.Laws.RangeAny
set_option linter.unusedVariables false
set_option linter.unusedSimpArgs false
set_option maxRecDepth 100000
set_option maxHeartbeats 40000000
namespace Go.Proofs.YtmmjihadplknjaaGreatDoor
open Go.RowKit
def zua.ok(x:zua):Prop:=ok64 x.Code/\ok64 x.Index
def zua.bk(x:zua):Nat:=(fun _=>1) x.Code+(fun _=>1) x.Index+1
instance:Inhabited zua:=⟨⟨default,default⟩⟩
def yra.ok(x:yra):Prop:=w3a x.Address/\(okL w3a) x.To
def yra.bk(x:yra):Nat:=(fun s=>s.length+1) x.Address+(bkL (fun s=>s.length+1)) x.To+1
instance:Inhabited yra:=⟨⟨default,default⟩⟩
def zca.ok(x:zca):Prop:=w3a x.Address/\ok64 x.Notify
def zca.bk(x:zca):Nat:=(fun s=>s.length+1) x.Address+(fun _=>1) x.Notify+1
instance:Inhabited zca:=⟨⟨default,default⟩⟩
def kNa.ok(x:kNa):Prop:=w3a x.From/\(okL zca.ok) x.To/\w3a x.Id
def kNa.bk(x:kNa):Nat:=(fun s=>s.length+1) x.From+(bkL zca.bk) x.To+(fun s=>s.length+1) x.Id+1
instance:Inhabited kNa:=⟨⟨default,default,default⟩⟩
def zia.ok(x:zia):Prop:=w3a x.Name/\w3a x.Value
def zia.bk(x:zia):Nat:=(fun s=>s.length+1) x.Name+(fun s=>s.length+1) x.Value+1
instance:Inhabited zia:=⟨⟨default,default⟩⟩
def zAa.ok(x:zAa):Prop:=(okL zia.ok) x.Fields/\(okL (fun _=>True)) x.Body
def zAa.bk(x:zAa):Nat:=(bkL zia.bk) x.Fields+(bkL (fun _=>1)) x.Body+1
instance:Inhabited zAa:=⟨⟨default,default⟩⟩
def zEa.ok(x:zEa):Prop:=kNa.ok x.Envelope/\zAa.ok x.Message
def zEa.bk(x:zEa):Nat:=kNa.bk x.Envelope+zAa.bk x.Message+1
instance:Inhabited zEa:=⟨⟨default,default⟩⟩
def jDa.ok(x:jDa):Prop:=w3a x.Address/\(okL w3a) x.To/\(fun _=>True) x.Keep
def jDa.bk(x:jDa):Nat:=(fun s=>s.length+1) x.Address+(bkL (fun s=>s.length+1)) x.To+(fun _=>1) x.Keep+1
instance:Inhabited jDa:=⟨⟨default,default,default⟩⟩
def Wha.ok(x:Wha):Prop:=ok64 x.Number/\zEa.ok x.Mail
def Wha.bk(x:Wha):Nat:=(fun _=>1) x.Number+zEa.bk x.Mail+1
instance:Inhabited Wha:=⟨⟨default,default⟩⟩
def kIb.ok(x:kIb):Prop:=w3a x.Address/\w3a x.Owner/\(fun _=>True) x.Open/\(okL w3a) x.Subscribers/\(okL w3a) x.Moderators/\(okL Wha.ok) x.Held/\ok64 x.Next
def kIb.bk(x:kIb):Nat:=(fun s=>s.length+1) x.Address+(fun s=>s.length+1) x.Owner+(fun _=>1) x.Open+(bkL (fun s=>s.length+1)) x.Subscribers+(bkL (fun s=>s.length+1)) x.Moderators+(bkL Wha.bk) x.Held+(fun _=>1) x.Next+1
instance:Inhabited kIb:=⟨⟨default,default,default,default,default,default,default⟩⟩
def zsa.ok(x:zsa):Prop:=ok64 x.Code/\(okL w3a) x.Lines
def zsa.bk(x:zsa):Nat:=(fun _=>1) x.Code+(bkL (fun s=>s.length+1)) x.Lines+1
instance:Inhabited zsa:=⟨⟨default,default⟩⟩
def kJb.ok(x:kJb):Prop:=ok64 x.Year/\ok64 x.Month/\ok64 x.Day/\ok64 x.Hour/\ok64 x.Minute/\ok64 x.Second/\ok64 x.Zone
def kJb.bk(x:kJb):Nat:=(fun _=>1) x.Year+(fun _=>1) x.Month+(fun _=>1) x.Day+(fun _=>1) x.Hour+(fun _=>1) x.Minute+(fun _=>1) x.Second+(fun _=>1) x.Zone+1
instance:Inhabited kJb:=⟨⟨default,default,default,default,default,default,default⟩⟩
def zka.ok(x:zka):Prop:=ok64 x.Verb/\w3a x.Name/\w3a x.Address/\ok64 x.Size/\ok64 x.Notify/\(fun _=>True) x.Last
def zka.bk(x:zka):Nat:=(fun _=>1) x.Verb+(fun s=>s.length+1) x.Name+(fun s=>s.length+1) x.Address+(fun _=>1) x.Size+(fun _=>1) x.Notify+(fun _=>1) x.Last+1
instance:Inhabited zka:=⟨⟨default,default,default,default,default,default⟩⟩
def zja.ok(x:zja):Prop:=ok64 x.n/\w3a x.word
def zja.bk(x:zja):Nat:=(fun _=>1) x.n+(fun s=>s.length+1) x.word+1
instance:Inhabited zja:=⟨⟨default,default⟩⟩
def Wia.ok(x:Wia):Prop:=w3a x.Address/\ok64 x.Result
def Wia.bk(x:Wia):Nat:=(fun s=>s.length+1) x.Address+(fun _=>1) x.Result+1
instance:Inhabited Wia:=⟨⟨default,default⟩⟩
def Koa.ok(x:Koa):Prop:=ok64 x.Kind/\w3a x.Id/\(okL Wia.ok) x.Told
def Koa.bk(x:Koa):Nat:=(fun _=>1) x.Kind+(fun s=>s.length+1) x.Id+(bkL Wia.bk) x.Told+1
instance:Inhabited Koa:=⟨⟨default,default,default⟩⟩
def vHa.ok(x:vHa):Prop:=ok64 x.kind/\ok64 x.result
def vHa.bk(x:vHa):Nat:=(fun _=>1) x.kind+(fun _=>1) x.result+1
instance:Inhabited vHa:=⟨⟨default,default⟩⟩
def wja.ok(x:wja):Prop:=w3a x.Name/\zEa.ok x.Mail/\(fun _=>True) x.Pipelined/\(okL (fun _=>True)) x.Buffer/\ok64 x.Expected/\(fun _=>True) x.Whole/\(fun _=>True) x.Done/\(okL ok64) x.Results
def wja.bk(x:wja):Nat:=(fun s=>s.length+1) x.Name+zEa.bk x.Mail+(fun _=>1) x.Pipelined+(bkL (fun _=>1)) x.Buffer+(fun _=>1) x.Expected+(fun _=>1) x.Whole+(fun _=>1) x.Done+(bkL (fun _=>1)) x.Results+1
instance:Inhabited wja:=⟨⟨default,default,default,default,default,default,default,default⟩⟩
def kXa.ok(x:kXa):Prop:=wja.ok x.Client/\(okL (fun _=>True)) x.content/\(fun _=>True) x.chunk/\(okL (fun _=>True)) x.out
def kXa.bk(x:kXa):Nat:=wja.bk x.Client+(bkL (fun _=>1)) x.content+(fun _=>1) x.chunk+(bkL (fun _=>1)) x.out+1
instance:Inhabited kXa:=⟨⟨default,default,default,default⟩⟩
def kia.ok(x:kia):Prop:=wja.ok x.C/\(okL (fun _=>True)) x.Out
def kia.bk(x:kia):Nat:=wja.bk x.C+(bkL (fun _=>1)) x.Out+1
instance:Inhabited kia:=⟨⟨default,default⟩⟩
def zha.ok(x:zha):Prop:=w3a x.Name/\ok64 x.Size/\ok64 x.Many/\ok64 x.Phase/\(fun _=>True) x.Greeted/\(fun _=>True) x.Mailing/\w3a x.From/\(okL zca.ok) x.To/\(okL (fun _=>True)) x.Buffer/\(okL (fun _=>True)) x.Data/\ok64 x.Lost/\ok64 x.Dots/\(fun _=>True) x.Chunked/\ok64 x.Left/\(fun _=>True) x.Last/\(fun _=>True) x.Ignore/\ok64 x.Count
def zha.bk(x:zha):Nat:=(fun s=>s.length+1) x.Name+(fun _=>1) x.Size+(fun _=>1) x.Many+(fun _=>1) x.Phase+(fun _=>1) x.Greeted+(fun _=>1) x.Mailing+(fun s=>s.length+1) x.From+(bkL zca.bk) x.To+(bkL (fun _=>1)) x.Buffer+(bkL (fun _=>1)) x.Data+(fun _=>1) x.Lost+(fun _=>1) x.Dots+(fun _=>1) x.Chunked+(fun _=>1) x.Left+(fun _=>1) x.Last+(fun _=>1) x.Ignore+(fun _=>1) x.Count+1
instance:Inhabited zha:=⟨⟨default,default,default,default,default,default,default,default,default,default,default,default,default,default,default,default,default⟩⟩
def zea.ok(x:zea):Prop:=zha.ok x.Server/\(okL zsa.ok) x.replies/\(okL zEa.ok) x.mails
def zea.bk(x:zea):Nat:=zha.bk x.Server+(bkL zsa.bk) x.replies+(bkL zEa.bk) x.mails+1
instance:Inhabited zea:=⟨⟨default,default,default⟩⟩
def zda.ok(x:zda):Prop:=zha.ok x.S/\(okL zsa.ok) x.Replies/\(okL zEa.ok) x.Mails
def zda.bk(x:zda):Nat:=zha.bk x.S+(bkL zsa.bk) x.Replies+(bkL zEa.bk) x.Mails+1
instance:Inhabited zda:=⟨⟨default,default,default⟩⟩
theorem w1b:wUb Tryz.prog 9 1 cS w3a (fun s=>s.length+1):=opens_S zCa.u (by kernel_rfl)
theorem op_int:wUb Tryz.prog 3 1 cI ok64 (fun _=>1):=opens_I wKa.u (by kernel_rfl)
def R_In(a0:Int)(a1:Int)(a2:Int):Option Bool:=
 ((bif decide (a1<=a0) then some (decide (a0<=a2)) else some false):Option Bool).bind fun (j1:Bool)=>some j1
def R_At(a0:Int)(a1:Int):Option zua:=
 some ((zua.mk a0 a1))
def qka(a0:UInt8):Option Bool:=
 ((R_In ((a0.toNat:Int)) 97 122).bind fun v2=>(bif v2 then some true else (R_In ((a0.toNat:Int)) 65 90).bind fun v5=>(bif v5 then some true else (R_In ((a0.toNat:Int)) 48 57).bind fun v8=>some v8)):Option Bool).bind fun (j1:Bool)=>some j1
def Wna(a0:Str)(s1:Int):Option (Step Int (Unit ⊕ Int)):=
 (bif decide (s1 < (a0.length:Int)) then (idx a0 s1).bind fun v7=>(bif ((v7.toNat:Int)==64) then some (.out (.inr s1)) else some (.cont (w64 (s1+1)))) else some (.out (.inl (()))))
noncomputable def w2b(a0:Str):Option Int:=
 (iter (Wna a0) 0).bind (Sum.elim (fun b2=>some ((a0.length:Int))) (fun b3=>some b3))
def vga(a0:Str)(s1:Int):Option (Step Int (Unit ⊕ Bool)):=
 (bif decide (s1 < (a0.length:Int)) then (idx a0 s1).bind fun v7=>((idx a0 s1).bind fun v10=>(bif ((v10.toNat:Int)==46) then (bif (s1==0) then some true else (bif (s1==(w64 ((a0.length:Int) - 1))) then some true else (idx a0 ((w64 (s1 - 1)))).bind fun v15=>some (((v15.toNat:Int)==46)))) else some false):Option Bool).bind fun (j9:Bool)=>(bif j9 then some (.out (.inr false)) else ((R_In ((v7.toNat:Int)) 97 122).bind fun v19=>(bif (!v19) then (R_In ((v7.toNat:Int)) 48 57).bind fun v22=>(bif (!v22) then (idx a0 s1).bind fun v25=>(bif ((v25.toNat:Int) !=45) then (idx a0 s1).bind fun v28=>some (((v28.toNat:Int) !=46)) else some false) else some false) else some false):Option Bool).bind fun (j18:Bool)=>(bif j18 then some (.out (.inr false)) else some (.cont (w64 (s1+1))))) else some (.out (.inl (()))))
noncomputable def QNa(a0:Str):Option Bool:=
 (iter (vga a0) 0).bind (Sum.elim (fun b2=>(R_In ((a0.length:Int)) 1 60).bind fun v31=>some v31) (fun b3=>some b3))
def wBa(a0:Str)(v1:Int)(s3:Int):Option (Step Int (Unit ⊕ Bool)):=
 (bif decide (s3 < v1) then (idx a0 s3).bind fun v9=>((qka v9).bind fun v12=>(bif (!v12) then (bif ((v9.toNat:Int) !=45) then (bif ((v9.toNat:Int) !=95) then (bif ((v9.toNat:Int) !=46) then (bif ((v9.toNat:Int) !=43) then some (((v9.toNat:Int) !=61)) else some false) else some false) else some false) else some false) else some false):Option Bool).bind fun (j11:Bool)=>(bif j11 then some (.out (.inr false)) else some (.cont (w64 (s3+1)))) else some (.out (.inl (()))))
noncomputable def ysa(a0:Str):Option Bool:=
 (w2b a0).bind fun v1=>(iter (wBa a0 v1) 0).bind (Sum.elim (fun b4=>((R_In v1 1 60).bind fun v21=>(bif v21 then (bif decide (v1 < (a0.length:Int)) then (cut a0 ((w64 (v1+1))) ((a0.length:Int))).bind fun v25=>(QNa v25).bind fun v27=>some v27 else some false) else some false):Option Bool).bind fun (j20:Bool)=>some j20) (fun b5=>some b5))
def zwa(a0:Int)(a1:Int):Option zua:=
 some ((zua.mk a0 a1))
def kAa:Option zua:=
 some ((zua.mk 0 0))
def z5a(a0:zua):Option Bool:=
 some ((a0.Code !=0))
def vNa(a0:UInt8):Option Bool:=
 ((bif decide (97<=(a0.toNat:Int)) then (bif decide ((a0.toNat:Int)<=122) then some true else (bif decide (65<=(a0.toNat:Int)) then (bif decide ((a0.toNat:Int)<=90) then some true else (bif decide (48<=(a0.toNat:Int)) then some (decide ((a0.toNat:Int)<=57)) else some false)) else (bif decide (48<=(a0.toNat:Int)) then some (decide ((a0.toNat:Int)<=57)) else some false))) else (bif decide (65<=(a0.toNat:Int)) then (bif decide ((a0.toNat:Int)<=90) then some true else (bif decide (48<=(a0.toNat:Int)) then some (decide ((a0.toNat:Int)<=57)) else some false)) else (bif decide (48<=(a0.toNat:Int)) then some (decide ((a0.toNat:Int)<=57)) else some false))):Option Bool).bind fun (j1:Bool)=>some j1
def yNa(a0:List Str)(a1:List Str)(s2:Int):Option (Step Int (Unit ⊕ Bool)):=
 (bif decide (s2 < (a0.length:Int)) then (idx a0 s2).bind fun v8=>(idx a1 s2).bind fun v10=>(bif (v8 !=v10) then some (.out (.inr false)) else some (.cont (w64 (s2+1)))) else some (.out (.inl (()))))
noncomputable def jja(a0:List Str)(a1:List Str):Option Bool:=
 (bif ((a0.length:Int) !=(a1.length:Int)) then some false else (iter (yNa a0 a1) 0).bind (Sum.elim (fun b3=>some true) (fun b4=>some b4)))
def wla(a0:List UInt8)(a1:List UInt8):Option Bool:=
 some ((a0==a1))
def kGa(a0:List UInt8)(a1:List UInt8):Option Bool:=
 ((bif decide ((a1.length:Int)<=(a0.length:Int)) then (cut a0 ((w64 ((a0.length:Int) - (a1.length:Int)))) ((a0.length:Int))).bind fun v3=>(wla v3 a1).bind fun v5=>some v5 else some false):Option Bool).bind fun (j1:Bool)=>some j1
def jEa(a b:List UInt8):Option Int:=if a.length < 4294967281/\b.length=2 then some (Lib.index a b) else none
def zUa(s:Str)(c:UInt8):Option Int:=some (Lib.indexByte s c)
def kJa(s t:Str):Option Bool:=if s.length < 4294967281 then some (Lib.contains s t) else none
def qza(s t:Str):Option (Str × Str × Bool):=if s.length < 4294967281 then some (Lib.cut s t) else none
def kva(a0:Int):Option Bool:=
 ((bif decide (0<=a0) then some (decide (a0 < 55296)) else some false):Option Bool).bind fun (j1:Bool)=>(bif j1 then some true else ((bif decide (57343 < a0) then some (decide (a0<=1114111)) else some false):Option Bool).bind fun (j4:Bool)=>(bif j4 then some true else some false))
def qea(a0:Str)(s7:Nat):Option (Step Nat (Unit ⊕ Int)):=
 (bif decide (s7 < a0.length) then (bif ((Z8a a0 s7)==65533) then some (.out (.inr (((s7:Nat):Int)))) else some (.cont (s7+jha a0 s7))) else some (.out (.inl (()))))
def w6a(a0:Str)(a1:Int)(j23:Int × Int)(s36:Int):Option (Step Int Unit):=
 (bif decide (s36 < (((wJa a1)).length:Int)) then (idx a0 ((w64 (j23.2 - s36)))).bind fun v40=>(idx ((wJa a1)) ((w64 (j23.1 - s36)))).bind fun v42=>(bif ((v40.toNat:Int) !=(v42.toNat:Int)) then none else some (.cont (w64 (s36+1)))) else some (.out (())))
noncomputable def qfa(a0:Str)(a1:Int)(j23:Int × Int):Option (Step Int (Unit ⊕ Int)):=
 (iter (w6a a0 a1 j23) 1).bind fun b37=>some (.out (.inr ((w64 (j23.2 - j23.1)))))
noncomputable def qga(a0:Str)(a1:Int)(s17:Int):Option (Step Int (Unit ⊕ Int)):=
 (bif decide (s17 < (a0.length:Int)) then (idx a0 s17).bind fun v24=>(idx ((wJa a1)) ((w64 ((((wJa a1)).length:Int) - 1)))).bind fun v26=>(bif ((v24.toNat:Int) !=(v26.toNat:Int)) then (cut a0 ((w64 (s17+1))) ((a0.length:Int))).bind fun v29=>(idx ((wJa a1)) ((w64 ((((wJa a1)).length:Int) - 1)))).bind fun v31=>(zUa v29 v31).bind fun v33=>(bif decide (v33 < 0) then some (.out (.inr ((-1)))) else (qfa a0 a1 ((w64 ((((wJa a1)).length:Int) - 1)),(w64 (s17+(w64 (v33+1))))))) else (qfa a0 a1 ((w64 ((((wJa a1)).length:Int) - 1)),s17))) else some (.out (.inl (()))))
noncomputable def kka(a0:Str)(a1:Int):Option Int:=
 ((bif decide (0<=a1) then some (decide (a1 < 128)) else some false):Option Bool).bind fun (j1:Bool)=>(bif j1 then (zUa a0 ((toU8 a1))).bind fun v4=>some v4 else (bif (a1==65533) then (iter (qea a0) 0).bind (Sum.elim (fun b8=>some ((-1))) (fun b9=>some b9)) else (kva a1).bind fun v14=>(bif (!v14) then some ((-1)) else (iter (qga a0 a1) ((w64 ((((wJa a1)).length:Int) - 1)))).bind (Sum.elim (fun b18=>some ((-1))) (fun b19=>some b19)))))
def zLa(a0:Int):Option Bool:=
 some (decide (8 < a0))
noncomputable def qha(a0:Str)(a1:Str)(s12:Nat):Option (Step Nat (Unit ⊕ Int)):=
 (bif decide (s12 < a0.length) then (kka a1 ((Z8a a0 s12))).bind fun v18=>(bif decide (0<=v18) then some (.out (.inr (((s12:Nat):Int)))) else some (.cont (s12+jha a0 s12))) else some (.out (.inl (()))))
noncomputable def vha(a0:Str)(a1:Str):Option Int:=
 (bif (a1==([]:Str)) then some ((-1)) else (bif ((a1.length:Int)==1) then (idx a1 0).bind fun v3=>((bif decide (128<=(v3.toNat:Int)) then some 65533 else some ((v3.toNat:Int))):Option Int).bind fun (j5:Int)=>(kka a0 j5).bind fun v7=>some v7 else (zLa ((a0.length:Int))).bind fun v9=>(bif v9 then none else (iter (qha a0 a1) 0).bind (Sum.elim (fun b13=>some ((-1))) (fun b14=>some b14)))))
def YBa(t:Str):Bool:=t.all fun c=>decide (c.toNat < 128)
def k5a(s t:Str):Option Int:=if s.length < 4294967281/\t.length < 4294967281/\2<=t.length/\YBa t=true then some (Lib.indexAny s t) else none
def z6a(a0:Str)(a1:Str):Option Bool:=
 ((bif decide ((a1.length:Int)<=(a0.length:Int)) then (cut a0 0 ((a1.length:Int))).bind fun v3=>some ((v3==a1)) else some false):Option Bool).bind fun (j1:Bool)=>some j1
def kBa(a0:Str)(a1:Str):Option Bool:=
 (z6a a0 a1).bind fun v1=>some v1
def z7a(a0:Str)(a1:Str):Option Bool:=
 ((bif decide ((a1.length:Int)<=(a0.length:Int)) then (cut a0 ((w64 ((a0.length:Int) - (a1.length:Int)))) ((a0.length:Int))).bind fun v3=>some ((v3==a1)) else some false):Option Bool).bind fun (j1:Bool)=>some j1
def kCa(a0:Str)(a1:Str):Option Bool:=
 (z7a a0 a1).bind fun v1=>some v1
def k9a(a0:Str)(s5:Int):Option (Step Int (Unit ⊕ Unit)):=
 (bif decide (s5 < (a0.length:Int)) then (idx a0 s5).bind fun v11=>((bif decide (97<=(v11.toNat:Int)) then (bif decide ((v11.toNat:Int)<=122) then some true else (bif decide (48<=(v11.toNat:Int)) then (bif decide ((v11.toNat:Int)<=57) then some true else (bif ((v11.toNat:Int)==45) then some true else some (((v11.toNat:Int)==46)))) else (bif ((v11.toNat:Int)==45) then some true else some (((v11.toNat:Int)==46))))) else (bif decide (48<=(v11.toNat:Int)) then (bif decide ((v11.toNat:Int)<=57) then some true else (bif ((v11.toNat:Int)==45) then some true else some (((v11.toNat:Int)==46)))) else (bif ((v11.toNat:Int)==45) then some true else some (((v11.toNat:Int)==46))))):Option Bool).bind fun (j13:Bool)=>(bif (!j13) then some (.out (.inr (()))) else some (.cont (w64 (s5+1)))) else some (.out (.inl (()))))
noncomputable def q5a(a0:Str):Option Bool:=
 ((bif (a0 !=([]:Str)) then (bif decide ((a0.length:Int)<=60) then ((iter (k9a a0) 0).bind (Sum.elim (fun b6=>some true) (fun b7=>some false)):Option Bool).bind fun (j4:Bool)=>(bif j4 then (kBa a0 (([46]:Str))).bind fun v26=>(bif (!v26) then (kCa a0 (([46]:Str))).bind fun v29=>(bif (!v29) then (kJa a0 (([46,46]:Str))).bind fun v32=>some ((!v32)) else some false) else some false) else some false) else some false) else some false):Option Bool).bind fun (j1:Bool)=>some j1
def qla(v1:Str × Str × Bool)(s8:Int):Option (Step Int (Unit ⊕ Unit)):=
 (bif decide (s8 < (v1.1.length:Int)) then (idx v1.1 s8).bind fun v14=>((vNa v14).bind fun v17=>(bif v17 then some true else (zUa (([45,95,46,43,61]:Str)) v14).bind fun v20=>some (decide (0<=v20))):Option Bool).bind fun (j16:Bool)=>(bif (!j16) then some (.out (.inr (()))) else some (.cont (w64 (s8+1)))) else some (.out (.inl (()))))
noncomputable def vsa(a0:Str):Option (Str × Str × Bool):=
 (qza a0 (([64]:Str))).bind fun v1=>((bif v1.2.2 then (bif (v1.1 !=([]:Str)) then (bif decide ((v1.1.length:Int)<=60) then ((iter (qla v1) 0).bind (Sum.elim (fun b9=>some true) (fun b10=>some false)):Option Bool).bind fun (j7:Bool)=>(bif j7 then (q5a v1.2.1).bind fun v24=>some v24 else some false) else some false) else some false) else some false):Option Bool).bind fun (j3:Bool)=>some ((v1.1,v1.2.1,j3))
noncomputable def kqa(a0:Str):Option Bool:=
 (vsa a0).bind fun v1=>some v1.2.2
def jFa(a0:Str)(s1:Int):Option (Step Int (Unit ⊕ Bool)):=
 (bif decide (s1 < (a0.length:Int)) then ((idx a0 s1).bind fun v8=>(qka v8).bind fun v10=>(bif (!v10) then (idx a0 s1).bind fun v13=>(bif ((v13.toNat:Int) !=45) then (idx a0 s1).bind fun v16=>(bif ((v16.toNat:Int) !=95) then (idx a0 s1).bind fun v19=>some (((v19.toNat:Int) !=46)) else some false) else some false) else some false):Option Bool).bind fun (j7:Bool)=>(bif j7 then some (.out (.inr false)) else some (.cont (w64 (s1+1)))) else some (.out (.inl (()))))
noncomputable def ZGa(a0:Str):Option Bool:=
 (iter (jFa a0) 0).bind (Sum.elim (fun b2=>(R_In ((a0.length:Int)) 1 60).bind fun v22=>some v22) (fun b3=>some b3))
def QOa(a0:List zca)(a1:Str)(s1:Int):Option (Step Int (Unit ⊕ Int)):=
 (bif decide (s1 < (a0.length:Int)) then (idx a0 s1).bind fun v7=>(bif (v7.Address==a1) then some (.out (.inr s1)) else some (.cont (w64 (s1+1)))) else some (.out (.inl (()))))
noncomputable def kLb(a0:List zca)(a1:Str):Option Int:=
 (iter (QOa a0 a1) 0).bind (Sum.elim (fun b2=>some ((-1))) (fun b3=>some b3))
def vUa(a0:Str)(s5:Int):Option (Step Int (Unit ⊕ Unit)):=
 (bif decide (s5 < (a0.length:Int)) then (idx a0 s5).bind fun v11=>((vNa v11).bind fun v14=>(bif v14 then some true else (bif ((v11.toNat:Int)==45) then some true else (bif ((v11.toNat:Int)==95) then some true else some (((v11.toNat:Int)==46))))):Option Bool).bind fun (j13:Bool)=>(bif (!j13) then some (.out (.inr (()))) else some (.cont (w64 (s5+1)))) else some (.out (.inl (()))))
noncomputable def yka(a0:Str):Option Bool:=
 ((bif (a0 !=([]:Str)) then (bif decide ((a0.length:Int)<=60) then ((iter (vUa a0) 0).bind (Sum.elim (fun b6=>some true) (fun b7=>some false)):Option Bool).bind fun (j4:Bool)=>some j4 else some false) else some false):Option Bool).bind fun (j1:Bool)=>some j1
def kYa(a0:Int):Option Bool:=
 ((bif decide (0<=a0) then some (decide (a0<=7)) else some false):Option Bool).bind fun (j1:Bool)=>some j1
def kwa(v7:zca)(v19:List zca)(s22:Int):Option (Step Int (Unit ⊕ Int)):=
 (bif decide (s22 < (v19.length:Int)) then (idx v19 s22).bind fun v28=>(bif (v28.Address==v7.Address) then some (.out (.inr s22)) else some (.cont (w64 (s22+1)))) else some (.out (.inl (()))))
noncomputable def k3a(a0:List zca)(s1:Int):Option (Step Int (Unit ⊕ zua)):=
 (bif decide (s1 < (a0.length:Int)) then (idx a0 s1).bind fun v7=>(kqa v7.Address).bind fun v9=>(bif (!v9) then (zwa 10 s1).bind fun v12=>some (.out (.inr v12)) else (kYa v7.Notify).bind fun v14=>(bif (!v14) then (zwa 3 s1).bind fun v17=>some (.out (.inr v17)) else (cut a0 0 s1).bind fun v19=>((iter (kwa v7 v19) 0).bind (Sum.elim (fun b23=>some ((-1))) (fun b24=>some b24)):Option Int).bind fun (j21:Int)=>(bif decide (0<=j21) then (zwa 7 s1).bind fun v32=>some (.out (.inr v32)) else some (.cont (w64 (s1+1)))))) else some (.out (.inl (()))))
noncomputable def kDa(a0:List zca):Option zua:=
 (iter (k3a a0) 0).bind (Sum.elim (fun b2=>(kAa).bind fun v34=>some v34) (fun b3=>some b3))
def qma(s4:Int × (List zca) × (List (Str × Int)))(j10:(List zca) × (List (Str × Int))):Option (Step (Int × (List zca) × (List (Str × Int))) ((List zca) ⊕ ((List zca) × zua))):=
 some (.cont ((w64 (s4.1+1)),j10.1,j10.2))
noncomputable def qna(a0:List zca)(s4:Int × (List zca) × (List (Str × Int))):Option (Step (Int × (List zca) × (List (Str × Int))) ((List zca) ⊕ ((List zca) × zua))):=
 (bif decide (s4.1 < (a0.length:Int)) then (idx a0 s4.1).bind fun v11=>(kqa v11.Address).bind fun v13=>(bif (!v13) then (zwa 10 s4.1).bind fun v16=>some (.out (.inr (([],v16)))) else (kYa v11.Notify).bind fun v18=>(bif (!v18) then (zwa 3 s4.1).bind fun v21=>some (.out (.inr (([],v21)))) else (bif (mget s4.2.2 v11.Address).isSome then (idx s4.2.1 (((mget s4.2.2 v11.Address).getD 0))).bind fun v24=>(idx s4.2.1 (((mget s4.2.2 v11.Address).getD 0))).bind fun v26=>(idx s4.2.1 (((mget s4.2.2 v11.Address).getD 0))).bind fun v28=>(idx s4.2.1 (((mget s4.2.2 v11.Address).getD 0))).bind fun v30=>(qma s4 ((List.set s4.2.1 (Int.toNat (((mget s4.2.2 v11.Address).getD 0))) ((zca.mk v30.Address ((iOr v26.Notify v11.Notify))))),s4.2.2)) else (app 5864062014805 s4.2.1 (([v11]:List zca))).bind fun v32=>(qma s4 (v32,(mput s4.2.2 v11.Address ((s4.2.1.length:Int)))))))) else some (.out (.inl s4.2.1)))
noncomputable def vta(a0:List zca):Option ((List zca) × zua):=
 (bif decide (300 < (a0.length:Int)) then (zwa 2 ((-1))).bind fun v2=>some (([],v2)) else (iter (qna a0) ((0,([]:List zca),([]:List (Str × Int))))).bind (Sum.elim (fun b5=>(kAa).bind fun v34=>some ((b5,v34))) (fun b6=>some ((b6.1,b6.2)))))
def qAa(a0:List zca)(a1:List zca)(s2:Int):Option (Step Int (Unit ⊕ Bool)):=
 (bif decide (s2 < (a0.length:Int)) then (idx a0 s2).bind fun v8=>(idx a1 s2).bind fun v10=>(bif (!(yaa [(v8.Address==v10.Address),(v8.Notify==v10.Notify)])) then some (.out (.inr false)) else some (.cont (w64 (s2+1)))) else some (.out (.inl (()))))
noncomputable def qHa(a0:List zca)(a1:List zca):Option Bool:=
 (bif ((a0.length:Int) !=(a1.length:Int)) then some false else (iter (qAa a0 a1) 0).bind (Sum.elim (fun b3=>some true) (fun b4=>some b4)))
def yta(a0:Int)(a1:Int)(s1:Int × Int):Option (Step (Int × Int) Int):=
 (bif decide (s1.2<=4) then (((nz s1.2).bind fun v7=>(bif ((iRem ((iQuo a0 s1.2)) 2)==1) then some true else (nz s1.2).bind fun v10=>some (((iRem ((iQuo a1 s1.2)) 2)==1))):Option Bool).bind fun (j6:Bool)=>(bif j6 then some ((w64 (s1.1+s1.2))) else some s1.1):Option Int).bind fun (j5:Int)=>some (.cont (j5,(w64 (2 * s1.2)))) else some (.out s1.1))
noncomputable def Jza(a0:Int)(a1:Int):Option Int:=
 (iter (yta a0 a1) ((0,1))).bind fun b2=>some b2
noncomputable def jGa(a0:List zca)(v11:zca)(s13:Int × Int):Option (Step (Int × Int) Int):=
 (bif decide (s13.1 < (a0.length:Int)) then ((idx a0 s13.1).bind fun v18=>(bif (v18.Address==v11.Address) then (idx a0 s13.1).bind fun v21=>(Jza s13.2 v21.Notify).bind fun v23=>some v23 else some s13.2):Option Int).bind fun (j17:Int)=>some (.cont ((w64 (s13.1+1)),j17)) else some (.out s13.2))
noncomputable def jHa(a0:List zca)(s1:Int × (List zca)):Option (Step (Int × (List zca)) (List zca)):=
 (bif decide (s1.1 < (a0.length:Int)) then ((idx a0 s1.1).bind fun v6=>(kLb s1.2 v6.Address).bind fun v8=>(bif decide (0<=v8) then some s1.2 else (idx a0 s1.1).bind fun v11=>(iter (jGa a0 v11) (((w64 (s1.1+1)),v11.Notify))).bind fun b14=>(app 5864062014805 s1.2 (([(zca.mk v11.Address b14)]:List zca))).bind fun v25=>some v25):Option (List zca)).bind fun (j5:List zca)=>some (.cont ((w64 (s1.1+1)),j5)) else some (.out s1.2))
noncomputable def JAa(a0:List zca):Option (List zca):=
 (iter (jHa a0) ((0,([]:List zca)))).bind fun b2=>some b2
def kja(a0:Str)(a1:Str):Option Bool:=
 (k5a a0 a1).bind fun v1=>some (decide (0<=v1))
def wLa(a0:Str)(s5:Int):Option (Step Int (Unit ⊕ Unit)):=
 (bif decide (s5 < (a0.length:Int)) then (idx a0 s5).bind fun v11=>((bif decide (33<=(v11.toNat:Int)) then (bif decide ((v11.toNat:Int)<=126) then some (((v11.toNat:Int) !=58)) else some false) else some false):Option Bool).bind fun (j13:Bool)=>(bif (!j13) then some (.out (.inr (()))) else some (.cont (w64 (s5+1)))) else some (.out (.inl (()))))
noncomputable def Zja(a0:Str):Option Bool:=
 ((bif (a0 !=([]:Str)) then (bif decide ((a0.length:Int)<=60) then ((iter (wLa a0) 0).bind (Sum.elim (fun b6=>some true) (fun b7=>some false)):Option Bool).bind fun (j4:Bool)=>some j4 else some false) else some false):Option Bool).bind fun (j1:Bool)=>some j1
def Zka(a0:Str):Option Bool:=
 (kja a0 (([13,10,0]:Str))).bind fun v1=>some v1
def qBa(a0:UInt8):Option Bool:=
 ((bif ((a0.toNat:Int)==32) then some true else some (((a0.toNat:Int)==9))):Option Bool).bind fun (j1:Bool)=>some j1
def jka(a0:Str):Option Bool:=
 ((Zka a0).bind fun v2=>(bif (!v2) then (bif (a0==([]:Str)) then some true else (idx a0 0).bind fun v6=>(qBa v6).bind fun v8=>(bif (!v8) then (idx a0 ((w64 ((a0.length:Int) - 1)))).bind fun v11=>(qBa v11).bind fun v13=>some ((!v13)) else some false)) else some false):Option Bool).bind fun (j1:Bool)=>some j1
def qCa(s1:Int × Int)(j5:Int):Option (Step (Int × Int) Int):=
 some (.cont (j5,(w64 (s1.2+1))))
def yca(a0:Str)(s1:Int × Int):Option (Step (Int × Int) Int):=
 (bif decide (s1.2 < (a0.length:Int)) then ((idx a0 s1.2).bind fun v7=>(qBa v7).bind fun v9=>(bif (!v9) then some true else (idx a0 ((w64 (s1.2 - 1)))).bind fun v12=>(qBa v12).bind fun v14=>some v14):Option Bool).bind fun (j6:Bool)=>(bif j6 then (qCa s1 s1.1) else ((bif decide (0 < s1.1) then some (decide (78 < s1.2)) else some false):Option Bool).bind fun (j17:Bool)=>(bif j17 then some (.out s1.1) else (qCa s1 s1.2))) else some (.out s1.1))
noncomputable def jla(a0:Str)(a1:Int):Option Int:=
 (iter (yca a0) ((0,(max a1 1)))).bind fun b2=>some b2
noncomputable def wMa(s18:Str × Int × (List Str)):Option (Step (Str × Int × (List Str)) (Str × (List Str))):=
 (bif decide (78 < (s18.1.length:Int)) then (jla s18.1 s18.2.1).bind fun v22=>(bif (v22==0) then some (.out ((s18.1,s18.2.2))) else (cut s18.1 0 v22).bind fun v25=>(app 8796093022208 s18.2.2 (([v25]:List Str))).bind fun v27=>(cut s18.1 v22 ((s18.1.length:Int))).bind fun v29=>some (.cont (v29,0,v27))) else some (.out ((s18.1,s18.2.2))))
def yOa(v31:List Str)(s34:Int):Option (Step Int (Unit ⊕ ((List Str) × zua))):=
 (bif decide (s34 < (v31.length:Int)) then (idx v31 s34).bind fun v40=>(bif decide (998 < (v40.length:Int)) then (zwa 1 s34).bind fun v43=>some (.out (.inr (([],v43)))) else some (.cont (w64 (s34+1)))) else some (.out (.inl (()))))
noncomputable def yua(a0:Str)(a1:Str):Option ((List Str) × zua):=
 (Zja a0).bind fun v1=>(bif (!v1) then (zwa 10 ((-1))).bind fun v4=>some (([],v4)) else (bif decide (4000 < (a1.length:Int)) then (zwa 1 ((-1))).bind fun v7=>some (([],v7)) else (jka a1).bind fun v9=>(bif (!v9) then (zwa 11 ((-1))).bind fun v12=>some (([],v12)) else (cat a0 (([58,32]:Str))).bind fun v14=>(cat v14 a1).bind fun v16=>(iter (wMa) ((v16,(w64 ((a0.length:Int)+2)),([]:List Str)))).bind fun b19=>(app 8796093022208 b19.2 (([b19.1]:List Str))).bind fun v31=>(iter (yOa v31) 0).bind (Sum.elim (fun b35=>(kAa).bind fun v45=>some ((v31,v45))) (fun b36=>some ((b36.1,b36.2)))))))
noncomputable def qWa(a0:List zia)(s4:Int):Option (Step Int (Unit ⊕ zua)):=
 (bif decide (s4 < (a0.length:Int)) then (idx a0 s4).bind fun v10=>(yua v10.Name v10.Value).bind fun v12=>(z5a v12.2).bind fun v14=>(bif v14 then (zwa v12.2.Code s4).bind fun v17=>some (.out (.inr v17)) else some (.cont (w64 (s4+1)))) else some (.out (.inl (()))))
noncomputable def q6a(a0:List zia):Option zua:=
 (bif decide (60 < (a0.length:Int)) then (zwa 2 ((-1))).bind fun v2=>some v2 else (iter (qWa a0) 0).bind (Sum.elim (fun b5=>(kAa).bind fun v19=>some v19) (fun b6=>some b6)))
def qIa(v7:(List Str) × zua)(s9:Int × (List UInt8)):Option (Step (Int × (List UInt8)) (List UInt8)):=
 (bif decide (s9.1 < (v7.1.length:Int)) then (idx v7.1 s9.1).bind fun v13=>(app 140737488355328 s9.2 v13).bind fun v15=>(app 140737488355328 v15 (([(13:UInt8),(10:UInt8)]:List UInt8))).bind fun v17=>some (.cont ((w64 (s9.1+1)),v17)) else some (.out s9.2))
noncomputable def qJa(a0:zAa)(s1:Int × (List UInt8)):Option (Step (Int × (List UInt8)) (List UInt8)):=
 (bif decide (s1.1 < (a0.Fields.length:Int)) then (idx a0.Fields s1.1).bind fun v5=>(yua v5.Name v5.Value).bind fun v7=>(iter (qIa v7) ((0,s1.2))).bind fun b10=>some (.cont ((w64 (s1.1+1)),b10)) else some (.out s1.2))
noncomputable def vVa(a0:zAa):Option (List UInt8):=
 (iter (qJa a0) ((0,([]:List UInt8)))).bind fun b2=>(app 140737488355328 b2 (([(13:UInt8),(10:UInt8)]:List UInt8))).bind fun v19=>(app 140737488355328 v19 a0.Body).bind fun v21=>some v21
def vWa(j7:Int × Int):Option (Step (Int × Int) (Unit ⊕ Int)):=
 some (.cont (j7.1,(w64 (j7.2+1))))
def via(a0:List UInt8)(s1:Int × Int):Option (Step (Int × Int) (Unit ⊕ Int)):=
 (bif decide (s1.2 < (a0.length:Int)) then (idx a0 s1.2).bind fun v8=>((bif ((v8.toNat:Int)==13) then (bif decide ((w64 (s1.2+1)) < (a0.length:Int)) then (idx a0 ((w64 (s1.2+1)))).bind fun v13=>some (((v13.toNat:Int)==10)) else some false) else some false):Option Bool).bind fun (j10:Bool)=>(bif j10 then (vWa (0,(w64 (s1.2+1)))) else ((bif ((v8.toNat:Int)==13) then some true else some (((v8.toNat:Int)==10))):Option Bool).bind fun (j16:Bool)=>(bif j16 then some (.out (.inr 11)) else (bif decide (998 < (w64 (s1.1+1))) then some (.out (.inr 1)) else (vWa ((w64 (s1.1+1)),s1.2))))) else some (.out (.inl (()))))
noncomputable def jma(a0:List UInt8):Option Int:=
 (iter (via a0) ((0,0))).bind (Sum.elim (fun b2=>some 0) (fun b3=>some b3))
noncomputable def wNa(a0:List UInt8):Option zua:=
 (jma a0).bind fun v1=>(bif (v1==11) then (zwa 11 ((-5))).bind fun v4=>some v4 else (bif (v1==1) then (zwa 1 ((-6))).bind fun v7=>some v7 else (kAa).bind fun v9=>some v9))
noncomputable def qKa(a0:zAa):Option zua:=
 (q6a a0.Fields).bind fun v1=>(z5a v1).bind fun v3=>(bif v3 then some v1 else (vVa a0).bind fun v6=>(bif decide (12000 < (v6.length:Int)) then (zwa 1 ((-4))).bind fun v9=>some v9 else (wNa a0.Body).bind fun v11=>some v11))
def vqa(a0:UInt8):Option Bool:=
 ((bif ((a0.toNat:Int)==32) then some true else some (((a0.toNat:Int)==9))):Option Bool).bind fun (j1:Bool)=>some j1
def kZa(s5:Str × Int × (List Str))(s9:Int × Int):Option (Step (Int × Int) Int):=
 ((bif decide (0 < s9.2) then some ((s9.1==0)) else some false):Option Bool).bind fun (j12:Bool)=>(bif j12 then (((bif decide (s5.2.1<=s9.2) then (idx s5.1 s9.2).bind fun v18=>(vqa v18).bind fun v20=>(bif v20 then (idx s5.1 ((w64 (s9.2 - 1)))).bind fun v23=>(vqa v23).bind fun v25=>some ((!v25)) else some false) else some false):Option Bool).bind fun (j16:Bool)=>(bif j16 then some s9.2 else some s9.1):Option Int).bind fun (j15:Int)=>some (.cont (j15,(w64 (s9.2 - 1)))) else some (.out s9.1))
def kHa(s5:Str × Int × (List Str))(s28:Int × Int):Option (Step (Int × Int) Int):=
 ((bif decide (s28.2 < (s5.1.length:Int)) then some ((s28.1==0)) else some false):Option Bool).bind fun (j31:Bool)=>(bif j31 then (((bif decide (s5.2.1<=s28.2) then (idx s5.1 s28.2).bind fun v37=>(vqa v37).bind fun v39=>(bif v39 then (idx s5.1 ((w64 (s28.2 - 1)))).bind fun v42=>(vqa v42).bind fun v44=>some ((!v44)) else some false) else some false):Option Bool).bind fun (j35:Bool)=>(bif j35 then some s28.2 else some s28.1):Option Int).bind fun (j34:Int)=>some (.cont (j34,(w64 (s28.2+1)))) else some (.out s28.1))
noncomputable def vXa(s5:Str × Int × (List Str)):Option (Step (Str × Int × (List Str)) (Str × (List Str))):=
 (bif decide (78 < (s5.1.length:Int)) then (iter (kZa s5) ((0,78))).bind fun b10=>(iter (kHa s5) ((b10,79))).bind fun b29=>(bif (b29==0) then some (.out ((s5.1,s5.2.2))) else (cut s5.1 0 b29).bind fun v48=>(app 8796093022208 s5.2.2 (([v48]:List Str))).bind fun v50=>(cut s5.1 b29 ((s5.1.length:Int))).bind fun v52=>some (.cont (v52,1,v50))) else some (.out ((s5.1,s5.2.2))))
noncomputable def yPa(a0:Str)(a1:Str):Option (List Str):=
 (cat a0 (([58,32]:Str))).bind fun v1=>(cat v1 a1).bind fun v3=>(iter (vXa) ((v3,(w64 ((a0.length:Int)+2)),([]:List Str)))).bind fun b6=>(app 8796093022208 b6.2 (([b6.1]:List Str))).bind fun v54=>some v54
def wCa(a0:zia)(s1:Int):Option (Step Int (Unit ⊕ Int)):=
 (bif decide (s1 < (a0.Name.length:Int)) then ((idx a0.Name s1).bind fun v8=>(R_In ((v8.toNat:Int)) 33 126).bind fun v10=>(bif (!v10) then some true else (idx a0.Name s1).bind fun v13=>some (((v13.toNat:Int)==58))):Option Bool).bind fun (j7:Bool)=>(bif j7 then some (.out (.inr 10)) else some (.cont (w64 (s1+1)))) else some (.out (.inl (()))))
def wDa(a0:zia)(s20:Int):Option (Step Int (Unit ⊕ Int)):=
 (bif decide (s20 < (a0.Value.length:Int)) then ((idx a0.Value s20).bind fun v27=>(bif ((v27.toNat:Int)==0) then some true else (idx a0.Value s20).bind fun v30=>(bif ((v30.toNat:Int)==10) then some true else (idx a0.Value s20).bind fun v33=>some (((v33.toNat:Int)==13)))):Option Bool).bind fun (j26:Bool)=>(bif j26 then some (.out (.inr 11)) else some (.cont (w64 (s20+1)))) else some (.out (.inl (()))))
def wEa(v48:List Str)(s50:Int):Option (Step Int (Unit ⊕ Int)):=
 (bif decide (s50 < (v48.length:Int)) then (idx v48 s50).bind fun v56=>(bif decide (998 < (v56.length:Int)) then some (.out (.inr 1)) else some (.cont (w64 (s50+1)))) else some (.out (.inl (()))))
noncomputable def jIa(a0:zia):Option Int:=
 (iter (wCa a0) 0).bind (Sum.elim (fun b2=>(R_In ((a0.Name.length:Int)) 1 60).bind fun v16=>(bif (!v16) then some 10 else (bif decide (4000 < (a0.Value.length:Int)) then some 1 else (iter (wDa a0) 0).bind (Sum.elim (fun b21=>((bif decide (0 < (a0.Value.length:Int)) then (idx a0.Value 0).bind fun v38=>(vqa v38).bind fun v40=>(bif v40 then some true else (idx a0.Value ((w64 ((a0.Value.length:Int) - 1)))).bind fun v43=>(vqa v43).bind fun v45=>some v45) else some false):Option Bool).bind fun (j36:Bool)=>(bif j36 then some 11 else (yPa a0.Name a0.Value).bind fun v48=>(iter (wEa v48) 0).bind (Sum.elim (fun b51=>some 0) (fun b52=>some b52)))) (fun b22=>some b22))))) (fun b3=>some b3))
def vja(v9:List Str)(s11:Int × (List UInt8)):Option (Step (Int × (List UInt8)) (List UInt8)):=
 (bif decide (s11.1 < (v9.length:Int)) then (idx v9 s11.1).bind fun v15=>(app 140737488355328 s11.2 v15).bind fun v17=>(app 140737488355328 v17 (([(13:UInt8),(10:UInt8)]:List UInt8))).bind fun v19=>some (.cont ((w64 (s11.1+1)),v19)) else some (.out s11.2))
noncomputable def vka(a0:zAa)(s1:Int × (List UInt8)):Option (Step (Int × (List UInt8)) (List UInt8)):=
 (bif decide (s1.1 < (a0.Fields.length:Int)) then (idx a0.Fields s1.1).bind fun v5=>(idx a0.Fields s1.1).bind fun v7=>(yPa v5.Name v7.Value).bind fun v9=>(iter (vja v9) ((0,s1.2))).bind fun b12=>some (.cont ((w64 (s1.1+1)),b12)) else some (.out s1.2))
noncomputable def y3a(a0:zAa):Option (List UInt8):=
 (iter (vka a0) ((0,([]:List UInt8)))).bind fun b2=>(app 140737488355328 b2 (([(13:UInt8),(10:UInt8)]:List UInt8))).bind fun v21=>(app 140737488355328 v21 a0.Body).bind fun v23=>some v23
noncomputable def wma(a0:zAa)(s4:Int):Option (Step Int (Unit ⊕ zua)):=
 (bif decide (s4 < (a0.Fields.length:Int)) then (idx a0.Fields s4).bind fun v10=>(jIa v10).bind fun v12=>(bif (v12 !=0) then (R_At v12 s4).bind fun v15=>some (.out (.inr v15)) else some (.cont (w64 (s4+1)))) else some (.out (.inl (()))))
def wna(j30:Int × Int):Option (Step (Int × Int) (Unit ⊕ zua)):=
 some (.cont (j30.1,(w64 (j30.2+1))))
def qoa(a0:zAa)(s24:Int × Int):Option (Step (Int × Int) (Unit ⊕ zua)):=
 (bif decide (s24.2 < (a0.Body.length:Int)) then (idx a0.Body s24.2).bind fun v31=>((bif ((v31.toNat:Int)==13) then (bif decide ((w64 (s24.2+1)) < (a0.Body.length:Int)) then (idx a0.Body ((w64 (s24.2+1)))).bind fun v36=>some (((v36.toNat:Int)==10)) else some false) else some false):Option Bool).bind fun (j33:Bool)=>(bif j33 then (wna (0,(w64 (s24.2+1)))) else ((bif ((v31.toNat:Int)==13) then some true else some (((v31.toNat:Int)==10))):Option Bool).bind fun (j39:Bool)=>(bif j39 then (R_At 11 ((-5))).bind fun v42=>some (.out (.inr v42)) else (bif decide (998 < (w64 (s24.1+1))) then (R_At 1 ((-6))).bind fun v45=>some (.out (.inr v45)) else (wna ((w64 (s24.1+1)),s24.2))))) else some (.out (.inl (()))))
noncomputable def y4a(a0:zAa):Option zua:=
 (bif decide (60 < (a0.Fields.length:Int)) then (R_At 2 ((-1))).bind fun v2=>some v2 else (iter (wma a0) 0).bind (Sum.elim (fun b5=>((bif decide (12000 < (a0.Body.length:Int)) then some true else (y3a a0).bind fun v19=>some (decide (12000 < (v19.length:Int)))):Option Bool).bind fun (j17:Bool)=>(bif j17 then (R_At 1 ((-4))).bind fun v22=>some v22 else (iter (qoa a0) ((0,0))).bind (Sum.elim (fun b25=>some ((zua.mk 0 0))) (fun b26=>some b26)))) (fun b6=>some b6)))
noncomputable def woa(a0:Str):Option Bool:=
 (yua a0 (([]:Str))).bind fun v1=>(z5a v1.2).bind fun v3=>some ((!v3))
def qca(a0:Str)(s1:Int × (List UInt8)):Option (Step (Int × (List UInt8)) (List UInt8)):=
 (bif decide (s1.1 < (a0.length:Int)) then ((idx s1.2 s1.1).bind fun v6=>(idx s1.2 s1.1).bind fun v8=>((bif decide (65<=(v8.toNat:Int)) then some (decide ((v8.toNat:Int)<=90)) else some false):Option Bool).bind fun (j10:Bool)=>(bif j10 then (idx s1.2 s1.1).bind fun v13=>(idx s1.2 s1.1).bind fun v15=>some ((List.set s1.2 (Int.toNat s1.1) (((v8+(97:UInt8)) - (65:UInt8))))) else some s1.2):Option (List UInt8)).bind fun (j5:List UInt8)=>some (.cont ((w64 (s1.1+1)),j5)) else some (.out s1.2))
noncomputable def vIa(a0:Str):Option Str:=
 (iter (qca a0) ((0,a0))).bind fun b2=>some b2
def ZHa(a0:Str)(s1:Int × (List UInt8)):Option (Step (Int × (List UInt8)) (List UInt8)):=
 (bif decide (s1.1 < (a0.length:Int)) then (idx a0 s1.1).bind fun v5=>((R_In ((v5.toNat:Int)) 65 90).bind fun v8=>(bif v8 then some ((v5+(32:UInt8))) else some v5):Option UInt8).bind fun (j7:UInt8)=>(app 140737488355328 s1.2 (([j7]:List UInt8))).bind fun v11=>some (.cont ((w64 (s1.1+1)),v11)) else some (.out s1.2))
noncomputable def Woa(a0:Str):Option Str:=
 (iter (ZHa a0) ((0,([]:List UInt8)))).bind fun b2=>some b2
def z8a(n:Int):Option Str:=if -9223372036854775808<=n/\n<=9223372036854775807 then some (Lib.itoa n) else none
def q7a(s:Str):Option (Int × Bool):=if s.length<=18 then (match Lib.atoi s with | some n=>some (n,false) | none=>some (0,true)) else none
noncomputable def yva(a0:zsa)(a1:zsa):Option Bool:=
 ((bif (a0.Code==a1.Code) then (jja a0.Lines a1.Lines).bind fun v3=>some v3 else some false):Option Bool).bind fun (j1:Bool)=>some j1
def Kqa(a0:Int):Option Str:=
 (bif decide (a0 < 10) then (cut (([48,49,50,51,52,53,54,55,56,57]:Str)) a0 ((w64 (a0+1)))).bind fun v2=>some v2 else none)
def Kra(a0:Int):Option Str:=
 (bif decide (a0 < 10) then (cut (([48,49,50,51,52,53,54,55,56,57]:Str)) a0 ((w64 (a0+1)))).bind fun v2=>some v2 else (Kqa ((iQuo a0 10))).bind fun v4=>(Kqa ((iRem a0 10))).bind fun v6=>(cat v4 v6).bind fun v8=>some v8)
def Ksa(a0:Int):Option Str:=
 (bif decide (a0 < 10) then (cut (([48,49,50,51,52,53,54,55,56,57]:Str)) a0 ((w64 (a0+1)))).bind fun v2=>some v2 else (Kra ((iQuo a0 10))).bind fun v4=>(Kra ((iRem a0 10))).bind fun v6=>(cat v4 v6).bind fun v8=>some v8)
def Kta(a0:Int):Option Str:=
 (bif decide (a0 < 10) then (cut (([48,49,50,51,52,53,54,55,56,57]:Str)) a0 ((w64 (a0+1)))).bind fun v2=>some v2 else (Ksa ((iQuo a0 10))).bind fun v4=>(Ksa ((iRem a0 10))).bind fun v6=>(cat v4 v6).bind fun v8=>some v8)
def Kua(a0:Int):Option Str:=
 (bif decide (a0 < 10) then (cut (([48,49,50,51,52,53,54,55,56,57]:Str)) a0 ((w64 (a0+1)))).bind fun v2=>some v2 else (Kta ((iQuo a0 10))).bind fun v4=>(Kta ((iRem a0 10))).bind fun v6=>(cat v4 v6).bind fun v8=>some v8)
def Kva(a0:Int):Option Str:=
 (bif decide (a0 < 10) then (cut (([48,49,50,51,52,53,54,55,56,57]:Str)) a0 ((w64 (a0+1)))).bind fun v2=>some v2 else (Kua ((iQuo a0 10))).bind fun v4=>(Kua ((iRem a0 10))).bind fun v6=>(cat v4 v6).bind fun v8=>some v8)
def Kwa(a0:Int):Option Str:=
 (bif decide (a0 < 10) then (cut (([48,49,50,51,52,53,54,55,56,57]:Str)) a0 ((w64 (a0+1)))).bind fun v2=>some v2 else (Kva ((iQuo a0 10))).bind fun v4=>(Kva ((iRem a0 10))).bind fun v6=>(cat v4 v6).bind fun v8=>some v8)
def Kxa(a0:Int):Option Str:=
 (bif decide (a0 < 10) then (cut (([48,49,50,51,52,53,54,55,56,57]:Str)) a0 ((w64 (a0+1)))).bind fun v2=>some v2 else (Kwa ((iQuo a0 10))).bind fun v4=>(Kwa ((iRem a0 10))).bind fun v6=>(cat v4 v6).bind fun v8=>some v8)
def Kya(a0:Int):Option Str:=
 (bif decide (a0 < 10) then (cut (([48,49,50,51,52,53,54,55,56,57]:Str)) a0 ((w64 (a0+1)))).bind fun v2=>some v2 else (Kxa ((iQuo a0 10))).bind fun v4=>(Kxa ((iRem a0 10))).bind fun v6=>(cat v4 v6).bind fun v8=>some v8)
def Kza(a0:Int):Option Str:=
 (bif decide (a0 < 10) then (cut (([48,49,50,51,52,53,54,55,56,57]:Str)) a0 ((w64 (a0+1)))).bind fun v2=>some v2 else (Kya ((iQuo a0 10))).bind fun v4=>(Kya ((iRem a0 10))).bind fun v6=>(cat v4 v6).bind fun v8=>some v8)
def Zla(a0:Int):Option Str:=
 (bif decide (a0 < 10) then (cut (([48,49,50,51,52,53,54,55,56,57]:Str)) a0 ((w64 (a0+1)))).bind fun v2=>some v2 else (Kza ((iQuo a0 10))).bind fun v4=>(Kza ((iRem a0 10))).bind fun v6=>(cat v4 v6).bind fun v8=>some v8)
def Zma(a0:Int):Option Str:=
 (bif decide (a0 < 10) then (cut (([48,49,50,51,52,53,54,55,56,57]:Str)) a0 ((w64 (a0+1)))).bind fun v2=>some v2 else (Zla ((iQuo a0 10))).bind fun v4=>(Zla ((iRem a0 10))).bind fun v6=>(cat v4 v6).bind fun v8=>some v8)
def jJa(a0:Int):Option Str:=
 (bif decide (a0 < 10) then (cut (([48,49,50,51,52,53,54,55,56,57]:Str)) a0 ((w64 (a0+1)))).bind fun v2=>some v2 else (Zma ((iQuo a0 10))).bind fun v4=>(Zma ((iRem a0 10))).bind fun v6=>(cat v4 v6).bind fun v8=>some v8)
def wpa(a0:Str)(s9:Int × Int):Option (Step (Int × Int) (Int ⊕ Int)):=
 (bif decide (s9.2 < (a0.length:Int)) then (idx a0 s9.2).bind fun v15=>(R_In ((v15.toNat:Int)) 48 57).bind fun v17=>(bif (!v17) then some (.out (.inr ((-1)))) else (idx a0 s9.2).bind fun v20=>some (.cont ((w64 ((w64 (10 * s9.1))+(((v20 - (48:UInt8))).toNat:Int))),(w64 (s9.2+1))))) else some (.out (.inl s9.1)))
noncomputable def VTa(a0:Str):Option Int:=
 ((R_In ((a0.length:Int)) 1 9).bind fun v2=>(bif (!v2) then some true else (bif decide (1 < (a0.length:Int)) then (idx a0 0).bind fun v6=>some (((v6.toNat:Int)==48)) else some false)):Option Bool).bind fun (j1:Bool)=>(bif j1 then some ((-1)) else (iter (wpa a0) ((0,0))).bind (Sum.elim (fun b10=>some b10) (fun b11=>some b11)))
def q8a(l:List Str)(s:Str):Option Str:=if l.length<=140737488355328/\(Lib.join l s).length<=140737488355328 then some (Lib.join l s) else none
def sp32(x:Nat):Bool:=decide ((x:Int)=32)
def kIa(s:Str):Option (List Str):=if s.length<=4294967296 then some ((Lib.goFieldsP sp32 (strB s)).map fun b=>b.data.toList) else none
def z1a(s t:Str):Option (Str × Bool):=some (Lib.trimPrefix s t,Lib.hasPrefix s t)
def z2a(s t:Str):Option (Str × Bool):=if s.length<=9223372036854775807 then some (Lib.trimSuffix s t,Lib.hasSuffix s t) else none
def wOa(a0:zka):Option zka:=
 ((bif (a0.Verb==1) then some ((a0.Name,([]:Str),0,0,false)) else (bif (a0.Verb==2) then some ((([]:Str),a0.Address,a0.Size,0,false)) else (bif (a0.Verb==3) then some ((([]:Str),a0.Address,0,a0.Notify,false)) else (bif (a0.Verb==5) then some ((([]:Str),([]:Str),a0.Size,0,a0.Last)) else some ((([]:Str),([]:Str),0,0,false)))))):Option (Str × Str × Int × Int × Bool)).bind fun (j1:Str × Str × Int × Int × Bool)=>some ((zka.mk a0.Verb j1.1 j1.2.1 j1.2.2.1 j1.2.2.2.1 j1.2.2.2.2))
noncomputable def qLa(a0:zka):Option zua:=
 ((bif (a0.Verb==3) then some true else (bif (a0.Verb==2) then some ((a0.Address !=([]:Str))) else some false)):Option Bool).bind fun (j1:Bool)=>((bif decide (a0.Verb < 1) then some true else some (decide (8 < a0.Verb))):Option Bool).bind fun (j4:Bool)=>(bif j4 then (zwa 4 ((-2))).bind fun v7=>some v7 else (wOa a0).bind fun v9=>(bif (!(yaa [(a0.Verb==v9.Verb),(a0.Name==v9.Name),(a0.Address==v9.Address),(a0.Size==v9.Size),(a0.Notify==v9.Notify),(a0.Last==v9.Last)])) then (zwa 5 ((-3))).bind fun v12=>some v12 else ((bif (a0.Verb==1) then (yka a0.Name).bind fun v16=>some ((!v16)) else some false):Option Bool).bind fun (j14:Bool)=>(bif j14 then (zwa 10 ((-4))).bind fun v19=>some v19 else ((bif j1 then (kqa a0.Address).bind fun v23=>some ((!v23)) else some false):Option Bool).bind fun (j21:Bool)=>(bif j21 then (zwa 10 ((-5))).bind fun v26=>some v26 else ((bif decide (a0.Size < 0) then some true else some (decide (1000000 < a0.Size))):Option Bool).bind fun (j28:Bool)=>(bif j28 then (zwa 3 ((-6))).bind fun v31=>some v31 else (kYa a0.Notify).bind fun v33=>(bif (!v33) then (zwa 3 ((-7))).bind fun v36=>some v36 else (kAa).bind fun v38=>some v38))))))
def yda:Option (Str × Str × Str × Str × Str × Str × Str × Str):=
 some ((([104,101,108,108,111]:Str),([109,97,105,108]:Str),([114,99,112,116]:Str),([100,97,116,97]:Str),([99,104,117,110,107]:Str),([114,101,115,101,116]:Str),([110,111,111,112]:Str),([113,117,105,116]:Str)))
def qXa:Option (zja × zja × zja):=
 some (((zja.mk 1 (([102,97,105,108,117,114,101]:Str))),(zja.mk 2 (([100,101,108,97,121]:Str))),(zja.mk 4 (([115,117,99,99,101,115,115]:Str)))))
def wqa(a0:Int)(v1:zja × zja × zja)(s3:Int × (List Str)):Option (Step (Int × (List Str)) (List Str)):=
 (bif decide (s3.1 < 3) then ((idx ([v1.1,v1.2.1,v1.2.2]:List zja) s3.1).bind fun v8=>(bif ((iAnd a0 v8.n) !=0) then (app 8796093022208 s3.2 (([v8.word]:List Str))).bind fun v11=>some v11 else some s3.2):Option (List Str)).bind fun (j7:List Str)=>some (.cont ((w64 (s3.1+1)),j7)) else some (.out s3.2))
noncomputable def vua(a0:Int):Option Str:=
 (qXa).bind fun v1=>(iter (wqa a0 v1) ((0,([]:List Str)))).bind fun b4=>(bif ((b4.length:Int)==0) then some (([110,101,118,101,114]:Str)) else (q8a b4 (([44]:Str))).bind fun v14=>some v14)
noncomputable def qpa(a0:Str):Option (Str × Bool):=
 (z1a a0 (([60]:Str))).bind fun v1=>(z2a v1.1 (([62]:Str))).bind fun v3=>((bif v1.2 then some v3.2 else some false):Option Bool).bind fun (j5:Bool)=>some ((v3.1,j5))
noncomputable def kRa(a0:List Str)(a1:Str):Option (Str × Bool):=
 (bif ((a0.length:Int) !=1) then some ((([]:Str),false)) else (idx a0 0).bind fun v2=>(vIa v2).bind fun v4=>(cat a1 (([61]:Str))).bind fun v6=>(z1a v4 v6).bind fun v8=>some ((v8.1,v8.2)))
noncomputable def wPa(a0:Str)(a1:Int):Option (Int × Bool):=
 (q7a a0).bind fun v1=>((bif v1.2 then some true else (z8a v1.1).bind fun v5=>(bif (v5 !=a0) then some true else (bif decide (v1.1 < 0) then some true else some (decide (a1 < v1.1))))):Option Bool).bind fun (j3:Bool)=>(bif j3 then some ((0,false)) else some ((v1.1,true)))
noncomputable def qPa(a0:Str):Option (Int × Bool):=
 (bif decide (9 < (a0.length:Int)) then some ((0,false)) else (wPa a0 999999999).bind fun v2=>some ((v2.1,v2.2)))
noncomputable def kea(a0:Str)(a1:Bool)(s1:Int):Option (Step Int (Unit ⊕ (Int × Bool))):=
 (bif decide (s1 < 8) then ((bif a1 then (vua s1).bind fun v9=>some ((v9==a0)) else some false):Option Bool).bind fun (j7:Bool)=>(bif j7 then some (.out (.inr ((s1,true)))) else some (.cont (w64 (s1+1)))) else some (.out (.inl (()))))
noncomputable def wQa(a0:Str)(a1:Bool):Option (Int × Bool):=
 (iter (kea a0 a1) 0).bind (Sum.elim (fun b2=>some ((0,false))) (fun b3=>some ((b3.1,b3.2))))
def vva(a0:Int)(a1:Int)(c0_0:List Str):Option Bool:=
 ((bif decide (a0<=(c0_0.length:Int)) then some (decide ((c0_0.length:Int)<=a1)) else some false):Option Bool).bind fun (j1:Bool)=>some j1
def kfa(a0:Int)(j1:Bool × Bool × Str × Str × Int × Int × Bool):Option (zka × Bool):=
 ((bif j1.1 then some j1.2.1 else some false):Option Bool).bind fun (j2:Bool)=>some (((zka.mk a0 j1.2.2.1 j1.2.2.2.1 j1.2.2.2.2.1 j1.2.2.2.2.2.1 j1.2.2.2.2.2.2),j2))
noncomputable def wRa(a0:Int)(a1:List Str):Option (zka × Bool):=
 (bif (a0==1) then ((bif decide (1<=(a1.length:Int)) then some (decide ((a1.length:Int)<=1)) else some false):Option Bool).bind fun (j5:Bool)=>(bif (!j5) then some (((zka.mk a0 (([]:Str)) (([]:Str)) 0 0 false),false)) else (idx a1 0).bind fun v8=>(kfa a0 (true,true,v8,([]:Str),0,0,false))) else (bif (a0==2) then ((bif decide (1<=(a1.length:Int)) then some (decide ((a1.length:Int)<=2)) else some false):Option Bool).bind fun (j11:Bool)=>(bif (!j11) then some (((zka.mk a0 (([]:Str)) (([]:Str)) 0 0 false),false)) else (idx a1 0).bind fun v14=>(qpa v14).bind fun v16=>(bif ((a1.length:Int)==2) then (cut a1 1 ((a1.length:Int))).bind fun v19=>(kRa v19 (([115,105,122,101]:Str))).bind fun v21=>(qPa v21.1).bind fun v23=>(bif v23.2 then (kfa a0 (v16.2,v21.2,([]:Str),v16.1,v23.1,0,false)) else (kfa a0 (v16.2,false,([]:Str),v16.1,v23.1,0,false))) else (kfa a0 (v16.2,true,([]:Str),v16.1,0,0,false)))) else (bif (a0==3) then ((bif decide (1<=(a1.length:Int)) then some (decide ((a1.length:Int)<=2)) else some false):Option Bool).bind fun (j27:Bool)=>(bif (!j27) then some (((zka.mk a0 (([]:Str)) (([]:Str)) 0 0 false),false)) else (idx a1 0).bind fun v30=>(qpa v30).bind fun v32=>(bif ((a1.length:Int)==2) then (cut a1 1 ((a1.length:Int))).bind fun v35=>(kRa v35 (([110,111,116,105,102,121]:Str))).bind fun v37=>(wQa v37.1 v37.2).bind fun v39=>(kfa a0 (v32.2,v39.2,([]:Str),v32.1,0,v39.1,false)) else (kfa a0 (v32.2,true,([]:Str),v32.1,0,1,false)))) else (bif (a0==5) then ((bif decide (1<=(a1.length:Int)) then some (decide ((a1.length:Int)<=2)) else some false):Option Bool).bind fun (j42:Bool)=>(bif (!j42) then some (((zka.mk a0 (([]:Str)) (([]:Str)) 0 0 false),false)) else (idx a1 0).bind fun v45=>(qPa v45).bind fun v47=>(bif (!(((a1.length:Int)==2))) then (kfa a0 (v47.2,true,([]:Str),([]:Str),v47.1,0,((a1.length:Int)==2))) else (idx a1 1).bind fun v50=>(vIa v50).bind fun v52=>(kfa a0 (v47.2,(v52==([108,97,115,116]:Str)),([]:Str),([]:Str),v47.1,0,((a1.length:Int)==2))))) else (vva 0 0 a1).bind fun v54=>some (((zka.mk a0 (([]:Str)) (([]:Str)) 0 0 false),v54))))))
noncomputable def k6a(v4:List Str)(v6:Str × Str × Str × Str × Str × Str × Str × Str)(s8:Int × Int):Option (Step (Int × Int) Int):=
 (bif decide (s8.2 < 8) then ((idx ([v6.1,v6.2.1,v6.2.2.1,v6.2.2.2.1,v6.2.2.2.2.1,v6.2.2.2.2.2.1,v6.2.2.2.2.2.2.1,v6.2.2.2.2.2.2.2]:List Str) s8.2).bind fun v13=>((bif decide (0 < (v4.length:Int)) then (idx v4 0).bind fun v17=>(vIa v17).bind fun v19=>some ((v19==v13)) else some false):Option Bool).bind fun (j15:Bool)=>(bif j15 then some ((w64 (s8.2+1))) else some s8.1):Option Int).bind fun (j12:Int)=>some (.cont (j12,(w64 (s8.2+1)))) else some (.out s8.1))
noncomputable def vYa(a0:Str):Option (zka × zua):=
 (bif decide (4000 < (a0.length:Int)) then (zwa 1 ((-1))).bind fun v2=>some (((zka.mk 0 (([]:Str)) (([]:Str)) 0 0 false),v2)) else (kIa a0).bind fun v4=>(yda).bind fun v6=>(iter (k6a v4 v6) ((0,0))).bind fun b9=>(bif (b9==0) then (zwa 18 ((-2))).bind fun v23=>some (((zka.mk 0 (([]:Str)) (([]:Str)) 0 0 false),v23)) else (cut v4 1 ((v4.length:Int))).bind fun v25=>(wRa b9 v25).bind fun v27=>(bif (!v27.2) then (zwa 11 ((-3))).bind fun v30=>some (((zka.mk 0 (([]:Str)) (([]:Str)) 0 0 false),v30)) else (qLa v27.1).bind fun v32=>(z5a v32).bind fun v34=>(bif v34 then some (((zka.mk 0 (([]:Str)) (([]:Str)) 0 0 false),v32)) else (kAa).bind fun v37=>some ((v27.1,v37))))))
noncomputable def y5a(a0:zka):Option zua:=
 (R_In a0.Verb 1 8).bind fun v1=>(bif (!v1) then (R_At 4 ((-2))).bind fun v4=>some v4 else ((bif (a0.Verb !=1) then (bif (a0.Name !=([]:Str)) then some true else (bif (a0.Verb !=2) then (bif (a0.Verb !=3) then (bif (a0.Address !=([]:Str)) then some true else (bif (a0.Verb !=5) then (bif (a0.Size !=0) then some true else (bif (a0.Notify !=0) then some true else some a0.Last)) else (bif (a0.Notify !=0) then some true else some false))) else (bif (a0.Verb !=5) then (bif (a0.Size !=0) then some true else some a0.Last) else some false)) else (bif (a0.Verb !=3) then (bif (a0.Notify !=0) then some true else (bif (a0.Verb !=5) then some a0.Last else some false)) else (bif (a0.Verb !=5) then some a0.Last else some false)))) else (bif (a0.Verb !=2) then (bif (a0.Verb !=3) then (bif (a0.Address !=([]:Str)) then some true else (bif (a0.Verb !=5) then (bif (a0.Size !=0) then some true else (bif (a0.Notify !=0) then some true else some a0.Last)) else (bif (a0.Notify !=0) then some true else some false))) else (bif (a0.Verb !=5) then (bif (a0.Size !=0) then some true else some a0.Last) else some false)) else (bif (a0.Verb !=3) then (bif (a0.Notify !=0) then some true else (bif (a0.Verb !=5) then some a0.Last else some false)) else (bif (a0.Verb !=5) then some a0.Last else some false)))):Option Bool).bind fun (j6:Bool)=>(bif j6 then (R_At 5 ((-3))).bind fun v36=>some v36 else ((bif (a0.Verb==1) then (ZGa a0.Name).bind fun v40=>some ((!v40)) else some false):Option Bool).bind fun (j38:Bool)=>(bif j38 then (R_At 10 ((-4))).bind fun v43=>some v43 else ((bif (a0.Verb==2) then (bif (a0.Address !=([]:Str)) then (ysa a0.Address).bind fun v48=>some ((!v48)) else (bif (a0.Verb==3) then (ysa a0.Address).bind fun v51=>some ((!v51)) else some false)) else (bif (a0.Verb==3) then (ysa a0.Address).bind fun v54=>some ((!v54)) else some false)):Option Bool).bind fun (j45:Bool)=>(bif j45 then (R_At 10 ((-5))).bind fun v57=>some v57 else ((bif (a0.Verb==2) then (R_In a0.Size 0 1000000).bind fun v61=>some ((!v61)) else (bif (a0.Verb==5) then (R_In a0.Size 0 1000000).bind fun v64=>some ((!v64)) else some false)):Option Bool).bind fun (j59:Bool)=>(bif j59 then (R_At 3 ((-6))).bind fun v67=>some v67 else ((bif (a0.Verb==3) then (R_In a0.Notify 0 7).bind fun v71=>some ((!v71)) else some false):Option Bool).bind fun (j69:Bool)=>(bif j69 then (R_At 3 ((-7))).bind fun v74=>some v74 else some ((zua.mk 0 0))))))))
def w3b(a0:Int):Option Str:=
 (idx (([([104,101,108,108,111]:Str),([109,97,105,108]:Str),([114,99,112,116]:Str),([100,97,116,97]:Str),([99,104,117,110,107]:Str),([114,101,115,101,116]:Str),([110,111,111,112]:Str),([113,117,105,116]:Str)]:List Str)) ((w64 (a0 - 1)))).bind fun v1=>some v1
def Zna(a0:Int):Option Str:=
 (idx (([([110,101,118,101,114]:Str),([102,97,105,108,117,114,101]:Str),([100,101,108,97,121]:Str),([102,97,105,108,117,114,101,44,100,101,108,97,121]:Str),([115,117,99,99,101,115,115]:Str),([102,97,105,108,117,114,101,44,115,117,99,99,101,115,115]:Str),([100,101,108,97,121,44,115,117,99,99,101,115,115]:Str),([102,97,105,108,117,114,101,44,100,101,108,97,121,44,115,117,99,99,101,115,115]:Str)]:List Str)) a0).bind fun v1=>some v1
def vla(a0:Str)(s1:Str × Int × (List Str)):Option (Step (Str × Int × (List Str)) (List Str)):=
 (bif decide (s1.2.1<=(a0.length:Int)) then (((bif decide (s1.2.1 < (a0.length:Int)) then (idx a0 s1.2.1).bind fun v8=>some (((v8.toNat:Int) !=32)) else some false):Option Bool).bind fun (j6:Bool)=>(bif j6 then (cut a0 s1.2.1 ((w64 (s1.2.1+1)))).bind fun v11=>(cat s1.1 v11).bind fun v13=>some ((v13,s1.2.2)) else ((bif (s1.1 !=([]:Str)) then (app 8796093022208 s1.2.2 (([s1.1]:List Str))).bind fun v17=>some v17 else some s1.2.2):Option (List Str)).bind fun (j15:List Str)=>some ((([]:Str),j15))):Option (Str × (List Str))).bind fun (j5:Str × (List Str))=>some (.cont (j5.1,(w64 (s1.2.1+1)),j5.2)) else some (.out s1.2.2))
noncomputable def kMb(a0:Str):Option (List Str):=
 (iter (vla a0) ((([]:Str),0,([]:List Str)))).bind fun b2=>some b2
noncomputable def QPa(a0:Str)(a1:Str):Option (Str × Bool):=
 (Woa a0).bind fun v1=>((bif decide ((v1.length:Int) < (a1.length:Int)) then some true else (cut v1 0 ((a1.length:Int))).bind fun v5=>some ((v5 !=a1))):Option Bool).bind fun (j3:Bool)=>(bif j3 then some ((([]:Str),false)) else (cut v1 ((a1.length:Int)) ((v1.length:Int))).bind fun v8=>some ((v8,true)))
noncomputable def qQa(v4:List Str)(s6:Int × Int):Option (Step (Int × Int) Int):=
 ((bif decide (s6.1<=8) then some (decide (0 < (v4.length:Int))) else some false):Option Bool).bind fun (j9:Bool)=>(bif j9 then ((idx v4 0).bind fun v13=>(Woa v13).bind fun v15=>(w3b s6.1).bind fun v17=>(bif (v15==v17) then some s6.1 else some s6.2):Option Int).bind fun (j12:Int)=>some (.cont ((w64 (s6.1+1)),j12)) else some (.out s6.2))
noncomputable def qRa(b7:Int)(j34:Str × Str × Int)(j37:Int × Int × Bool):Option (zka × zua):=
 (y5a ((zka.mk b7 j34.1 j34.2.1 j37.1 j37.2.1 j37.2.2))).bind fun v38=>(bif (v38.Code !=0) then some (((zka.mk 0 (([]:Str)) (([]:Str)) 0 0 false),v38)) else some (((zka.mk b7 j34.1 j34.2.1 j37.1 j37.2.1 j37.2.2),v38)))
def qSa(v54:Str × Bool)(s56:Bool × Int × Int):Option (Step (Bool × Int × Int) (Bool × Int)):=
 ((bif decide (s56.2.1 < 8) then some v54.2 else some false):Option Bool).bind fun (j59:Bool)=>(bif j59 then ((Zna s56.2.1).bind fun v63=>(bif (v63==v54.1) then some ((true,s56.2.1)) else some ((s56.1,s56.2.2))):Option (Bool × Int)).bind fun (j62:Bool × Int)=>some (.cont (j62.1,(w64 (s56.2.1+1)),j62.2)) else some (.out ((s56.1,s56.2.2))))
noncomputable def kFa(b7:Int)(v23:zua)(v25:List Str)(j34:Str × Str × Int):Option (zka × zua):=
 ((bif (b7==3) then some 1 else some 0):Option Int).bind fun (j35:Int)=>(bif ((v25.length:Int)==2) then ((bif (b7==2) then (idx v25 1).bind fun v44=>(QPa v44 (([115,105,122,101,61]:Str))).bind fun v46=>(VTa v46.1).bind fun v48=>(bif v46.2 then some ((decide (0<=v48),v48,j35,false)) else some ((false,v48,j35,false))) else (bif (b7==3) then (idx v25 1).bind fun v52=>(QPa v52 (([110,111,116,105,102,121,61]:Str))).bind fun v54=>(iter (qSa v54) ((false,0,j35))).bind fun b57=>some ((b57.1,j34.2.2,b57.2,false)) else (bif (b7==5) then (idx v25 1).bind fun v67=>(Woa v67).bind fun v69=>some (((v69==([108,97,115,116]:Str)),j34.2.2,j35,true)) else some ((false,j34.2.2,j35,false))))):Option (Bool × Int × Int × Bool)).bind fun (j42:Bool × Int × Int × Bool)=>(bif (!j42.1) then some (((zka.mk 0 (([]:Str)) (([]:Str)) 0 0 false),v23)) else (qRa b7 j34 (j42.2.1,j42.2.2.1,j42.2.2.2))) else (qRa b7 j34 (j34.2.2,j35,false)))
noncomputable def KAa(a0:Str):Option (zka × zua):=
 (bif decide (4000 < (a0.length:Int)) then (R_At 1 ((-1))).bind fun v2=>some (((zka.mk 0 (([]:Str)) (([]:Str)) 0 0 false),v2)) else (kMb a0).bind fun v4=>(iter (qQa v4) ((1,0))).bind fun b7=>(bif (b7==0) then (R_At 18 ((-2))).bind fun v21=>some (((zka.mk 0 (([]:Str)) (([]:Str)) 0 0 false),v21)) else (R_At 11 ((-3))).bind fun v23=>(cut v4 1 ((v4.length:Int))).bind fun v25=>(idx (([1,1,1,0,1,0,0,0]:List Int)) ((w64 (b7 - 1)))).bind fun v27=>(idx (([1,2,2,0,2,0,0,0]:List Int)) ((w64 (b7 - 1)))).bind fun v29=>(R_In ((v25.length:Int)) v27 v29).bind fun v31=>(bif (!v31) then some (((zka.mk 0 (([]:Str)) (([]:Str)) 0 0 false),v23)) else (bif (b7==1) then (idx v25 0).bind fun v73=>(kFa b7 v23 v25 (v73,([]:Str),0)) else ((bif (b7==2) then some true else some ((b7==3))):Option Bool).bind fun (j75:Bool)=>(bif j75 then (idx v25 0).bind fun v78=>((bif decide ((v78.length:Int) < 2) then some true else (idx v25 0).bind fun v82=>(idx v82 0).bind fun v84=>(bif ((v84.toNat:Int) !=60) then some true else (idx v25 0).bind fun v87=>(idx v87 ((w64 ((v78.length:Int) - 1)))).bind fun v89=>some (((v89.toNat:Int) !=62)))):Option Bool).bind fun (j80:Bool)=>(bif j80 then some (((zka.mk 0 (([]:Str)) (([]:Str)) 0 0 false),v23)) else (idx v25 0).bind fun v92=>(cut v92 1 ((w64 ((v78.length:Int) - 1)))).bind fun v94=>(kFa b7 v23 v25 (([]:Str),v94,0))) else (bif (b7==5) then (idx v25 0).bind fun v97=>(VTa v97).bind fun v99=>(bif decide (v99 < 0) then some (((zka.mk 0 (([]:Str)) (([]:Str)) 0 0 false),v23)) else (kFa b7 v23 v25 (([]:Str),([]:Str),v99))) else (kFa b7 v23 v25 (([]:Str),([]:Str),0))))))))
def kra(c:UInt8):UInt8:=if c=0∨c=13 then 32 else c
def z0a(s:Str):Option Str:=if s.length<=4611686018427387904 then some (s.map kra) else none
def qEb(t:Str):Bool:=t.all fun b=>decide (b.toNat < 128)
def wSa(s t:Str):Option Str:=if s.length<=9223372036854775807/\t.length < 4294967281/\qEb t=true then some (Lib.trimS s t) else none
def qqa(s t:Str):Option Str:=if s.length<=9223372036854775807/\t.length < 4294967281/\qEb t=true then some (Lib.trimRightS s t) else none
def qra(l:List UInt8)(c:UInt8):Option Int:=some (Lib.indexByte l c)
def kKa(a0:List UInt8)(a1:List UInt8):Option (List UInt8):=
 (kGa a0 a1).bind fun v1=>(bif v1 then (cut a0 0 ((w64 ((a0.length:Int) - (a1.length:Int))))).bind fun v4=>some v4 else some a0)
def ywa(a0:List UInt8):Option (Str × Int):=
 (qra a0 ((10:UInt8))).bind fun v1=>(bif decide (v1 < 0) then some ((a0,(a0.length:Int))) else (cut a0 0 v1).bind fun v4=>(kKa v4 (([(13:UInt8)]:List UInt8))).bind fun v6=>some ((v6,(w64 (v1+1)))))
noncomputable def vZa(a0:Str):Option (zia × Bool):=
 (qza a0 (([58]:Str))).bind fun v1=>(qqa v1.1 (([32,9]:Str))).bind fun v3=>((bif v1.2.2 then (woa v3).bind fun v7=>some v7 else some false):Option Bool).bind fun (j5:Bool)=>some (((zia.mk v3 v1.2.1),j5))
noncomputable def vwa(a0:List UInt8)(s4:Int × (List zia)):Option (Step (Int × (List zia)) (Int × (List zia))):=
 (bif decide (s4.1 < (a0.length:Int)) then (cut a0 s4.1 ((a0.length:Int))).bind fun v8=>(ywa v8).bind fun v10=>(bif (v10.1==([]:Str)) then some (.out (((w64 (s4.1+v10.2)),s4.2))) else ((idx v10.1 0).bind fun v14=>(qBa v14).bind fun v16=>(bif v16 then some (decide (0 < (s4.2.length:Int))) else some false):Option Bool).bind fun (j13:Bool)=>(bif j13 then (idx s4.2 ((w64 ((s4.2.length:Int) - 1)))).bind fun v20=>(idx s4.2 ((w64 ((s4.2.length:Int) - 1)))).bind fun v22=>(cat v22.Value v10.1).bind fun v24=>(idx s4.2 ((w64 ((s4.2.length:Int) - 1)))).bind fun v26=>(idx s4.2 ((w64 ((s4.2.length:Int) - 1)))).bind fun v28=>some (.cont ((w64 (s4.1+v10.2)),(List.set s4.2 (Int.toNat ((w64 ((s4.2.length:Int) - 1)))) ((zia.mk v28.Name v24))))) else (vZa v10.1).bind fun v30=>(bif (!v30.2) then some (.out ((s4.1,s4.2))) else (app 4398046511104 s4.2 (([v30.1]:List zia))).bind fun v33=>some (.cont ((w64 (s4.1+v10.2)),v33))))) else some (.out ((s4.1,s4.2))))
def vxa(b5:Int × (List zia))(s38:Int × (List zia)):Option (Step (Int × (List zia)) ((List zia) ⊕ ((List zia) × Int × zua))):=
 (bif decide (s38.1 < (b5.2.length:Int)) then (idx s38.2 s38.1).bind fun v44=>(idx s38.2 s38.1).bind fun v46=>(z0a v46.Value).bind fun v48=>(wSa v48 (([32,9]:Str))).bind fun v50=>(bif decide (4000 < (v50.length:Int)) then (zwa 1 s38.1).bind fun v53=>some (.out (.inr (([],0,v53)))) else (idx s38.2 s38.1).bind fun v55=>(idx s38.2 s38.1).bind fun v57=>some (.cont ((w64 (s38.1+1)),(List.set s38.2 (Int.toNat s38.1) ((zia.mk v57.Name v50)))))) else some (.out (.inl s38.2)))
noncomputable def jKa(a0:List UInt8):Option ((List zia) × Int × zua):=
 (bif decide (12000 < (a0.length:Int)) then (zwa 1 ((-1))).bind fun v2=>some (([],0,v2)) else (iter (vwa a0) ((0,([]:List zia)))).bind fun b5=>(bif decide (60 < (b5.2.length:Int)) then (zwa 2 ((-2))).bind fun v36=>some (([],0,v36)) else (iter (vxa b5) ((0,b5.2))).bind (Sum.elim (fun b39=>(kAa).bind fun v59=>some ((b39,b5.1,v59))) (fun b40=>some ((b40.1,b40.2.1,b40.2.2))))))
def qMa(a0:List UInt8)(s1:Int × (List UInt8)):Option (Step (Int × (List UInt8)) (List UInt8)):=
 (bif decide (s1.1 < (a0.length:Int)) then (((idx a0 s1.1).bind fun v7=>(bif ((v7.toNat:Int)==13) then (bif decide ((w64 (s1.1+1)) < (a0.length:Int)) then (idx a0 ((w64 (s1.1+1)))).bind fun v11=>some (((v11.toNat:Int)==10)) else some false) else some false):Option Bool).bind fun (j6:Bool)=>(bif j6 then (app 140737488355328 s1.2 (([(13:UInt8),(10:UInt8)]:List UInt8))).bind fun v14=>some (((w64 (s1.1+1)),v14)) else ((idx a0 s1.1).bind fun v17=>(bif ((v17.toNat:Int)==13) then some true else (idx a0 s1.1).bind fun v20=>some (((v20.toNat:Int)==10))):Option Bool).bind fun (j16:Bool)=>(bif j16 then (app 140737488355328 s1.2 (([(13:UInt8),(10:UInt8)]:List UInt8))).bind fun v23=>some ((s1.1,v23)) else (idx a0 s1.1).bind fun v25=>(app 140737488355328 s1.2 (([v25]:List UInt8))).bind fun v27=>some ((s1.1,v27)))):Option (Int × (List UInt8))).bind fun (j5:Int × (List UInt8))=>some (.cont ((w64 (j5.1+1)),j5.2)) else some (.out s1.2))
noncomputable def v0a(a0:List UInt8):Option (List UInt8):=
 (iter (qMa a0) ((0,([]:List UInt8)))).bind fun b2=>some b2
noncomputable def wTa(a0:List UInt8):Option (zAa × zua):=
 (jKa a0).bind fun v1=>(z5a v1.2.2).bind fun v3=>(bif v3 then some (((zAa.mk ([]) ([])),v1.2.2)) else (cut a0 v1.2.1 ((a0.length:Int))).bind fun v6=>(v0a v6).bind fun v8=>(qKa ((zAa.mk v1.1 v8))).bind fun v10=>(z5a v10).bind fun v12=>(bif v12 then some (((zAa.mk ([]) ([])),v10)) else (kAa).bind fun v15=>some (((zAa.mk v1.1 v8),v15))))
def jLa(a0:List UInt8)(s1:Int):Option (Step Int (Unit ⊕ (Str × Int))):=
 (bif decide (s1 < (a0.length:Int)) then (idx a0 s1).bind fun v7=>(bif ((v7.toNat:Int) !=10) then some (.cont (w64 (s1+1))) else ((bif decide (0 < s1) then (idx a0 ((w64 (s1 - 1)))).bind fun v12=>some (((v12.toNat:Int)==13)) else some false):Option Bool).bind fun (j10:Bool)=>(bif j10 then (cut a0 0 ((w64 (s1 - 1)))).bind fun v15=>some (.out (.inr ((v15,(w64 (s1+1)))))) else (cut a0 0 s1).bind fun v17=>some (.out (.inr ((v17,(w64 (s1+1)))))))) else some (.out (.inl (()))))
noncomputable def QQa(a0:List UInt8):Option (Str × Int):=
 (iter (jLa a0) 0).bind (Sum.elim (fun b2=>some ((a0,(a0.length:Int)))) (fun b3=>some ((b3.1,b3.2))))
def wUa(a0:Str)(s1:Int × (List UInt8)):Option (Step (Int × (List UInt8)) (List UInt8)):=
 (bif decide (s1.1 < (a0.length:Int)) then (idx a0 s1.1).bind fun v5=>(((bif ((v5.toNat:Int)==0) then some true else some (((v5.toNat:Int)==13))):Option Bool).bind fun (j8:Bool)=>(bif j8 then some ((32:UInt8)) else some v5):Option UInt8).bind fun (j7:UInt8)=>(app 140737488355328 s1.2 (([j7]:List UInt8))).bind fun v11=>some (.cont ((w64 (s1.1+1)),v11)) else some (.out s1.2))
def yQa(s13:List UInt8):Option (Step (List UInt8) (List UInt8)):=
 ((bif decide (0 < (s13.length:Int)) then (idx s13 0).bind fun v18=>(vqa v18).bind fun v20=>some v20 else some false):Option Bool).bind fun (j16:Bool)=>(bif j16 then (cut s13 1 ((s13.length:Int))).bind fun v23=>some (.cont v23) else some (.out s13))
def yRa(s26:List UInt8):Option (Step (List UInt8) (List UInt8)):=
 ((bif decide (0 < (s26.length:Int)) then (idx s26 ((w64 ((s26.length:Int) - 1)))).bind fun v31=>(vqa v31).bind fun v33=>some v33 else some false):Option Bool).bind fun (j29:Bool)=>(bif j29 then (cut s26 0 ((w64 ((s26.length:Int) - 1)))).bind fun v36=>some (.cont v36) else some (.out s26))
noncomputable def Wpa(a0:Str):Option Str:=
 (iter (wUa a0) ((0,([]:List UInt8)))).bind fun b2=>(iter (yQa) b2).bind fun b14=>(iter (yRa) b14).bind fun b27=>some b27
def jna(a0:Str)(s10:Int):Option (Step Int Int):=
 ((bif decide (0 < s10) then (idx a0 ((w64 (s10 - 1)))).bind fun v15=>(vqa v15).bind fun v17=>some v17 else some false):Option Bool).bind fun (j13:Bool)=>(bif j13 then some (.cont (w64 (s10 - 1))) else some (.out s10))
noncomputable def QRa(a0:Str)(s1:Int):Option (Step Int (Unit ⊕ (Str × Str))):=
 (bif decide (s1 < (a0.length:Int)) then (idx a0 s1).bind fun v7=>(bif ((v7.toNat:Int) !=58) then some (.cont (w64 (s1+1))) else (iter (jna a0) s1).bind fun b11=>(cut a0 0 b11).bind fun v20=>(jIa ((zia.mk v20 (([]:Str))))).bind fun v22=>(bif (v22==0) then (cut a0 0 b11).bind fun v25=>(cut a0 ((w64 (s1+1))) ((a0.length:Int))).bind fun v27=>some (.out (.inr ((v25,v27)))) else some (.out (.inr ((([]:Str),([]:Str))))))) else some (.out (.inl (()))))
noncomputable def kNb(a0:Str):Option (Str × Str):=
 (iter (QRa a0) 0).bind (Sum.elim (fun b2=>some ((([]:Str),([]:Str)))) (fun b3=>some ((b3.1,b3.2))))
noncomputable def wFa(a0:List UInt8)(s1:Int × (List zia)):Option (Step (Int × (List zia)) (Int × (List zia))):=
 (bif decide (s1.1 < (a0.length:Int)) then (cut a0 s1.1 ((a0.length:Int))).bind fun v5=>(QQa v5).bind fun v7=>(bif (v7.1==([]:Str)) then some (.out (((w64 (s1.1+v7.2)),s1.2))) else ((idx v7.1 0).bind fun v11=>(vqa v11).bind fun v13=>(bif v13 then some (((w64 ((s1.2.length:Int) - 1)),decide (0<=(w64 ((s1.2.length:Int) - 1))))) else some (((w64 ((s1.2.length:Int) - 1)),false))):Option (Int × Bool)).bind fun (j10:Int × Bool)=>(bif j10.2 then (idx s1.2 j10.1).bind fun v17=>(idx s1.2 j10.1).bind fun v19=>(cat v19.Value v7.1).bind fun v21=>(idx s1.2 j10.1).bind fun v23=>(idx s1.2 j10.1).bind fun v25=>some (.cont ((w64 (s1.1+v7.2)),(List.set s1.2 (Int.toNat j10.1) ((zia.mk v25.Name v21))))) else (kNb v7.1).bind fun v27=>(bif (v27.1==([]:Str)) then some (.out ((s1.1,s1.2))) else (app 4398046511104 s1.2 (([(zia.mk v27.1 v27.2)]:List zia))).bind fun v30=>some (.cont ((w64 (s1.1+v7.2)),v30))))) else some (.out ((s1.1,s1.2))))
noncomputable def wGa(s33:Int × (List zia)):Option (Step (Int × (List zia)) (List zia)):=
 (bif decide (s33.1 < (s33.2.length:Int)) then (idx s33.2 s33.1).bind fun v37=>(idx s33.2 s33.1).bind fun v39=>(Wpa v39.Value).bind fun v41=>(idx s33.2 s33.1).bind fun v43=>(idx s33.2 s33.1).bind fun v45=>some (.cont ((w64 (s33.1+1)),(List.set s33.2 (Int.toNat s33.1) ((zia.mk v45.Name v41))))) else some (.out s33.2))
def vya(a0:List UInt8)(s47:Int × (List UInt8)):Option (Step (Int × (List UInt8)) (List UInt8)):=
 (bif decide (s47.1 < (a0.length:Int)) then (((idx a0 s47.1).bind fun v53=>(bif ((v53.toNat:Int)==13) then some true else (idx a0 s47.1).bind fun v56=>some (((v56.toNat:Int)==10))):Option Bool).bind fun (j52:Bool)=>(bif j52 then (app 140737488355328 s47.2 (([(13:UInt8),(10:UInt8)]:List UInt8))).bind fun v59=>(((idx a0 s47.1).bind fun v63=>(bif ((v63.toNat:Int)==13) then (bif decide ((w64 (s47.1+1)) < (a0.length:Int)) then (idx a0 ((w64 (s47.1+1)))).bind fun v67=>some (((v67.toNat:Int)==10)) else some false) else some false):Option Bool).bind fun (j62:Bool)=>(bif j62 then some ((w64 (s47.1+1))) else some s47.1):Option Int).bind fun (j61:Int)=>some ((j61,v59)) else (idx a0 s47.1).bind fun v70=>(app 140737488355328 s47.2 (([v70]:List UInt8))).bind fun v72=>some ((s47.1,v72))):Option (Int × (List UInt8))).bind fun (j51:Int × (List UInt8))=>some (.cont ((w64 (j51.1+1)),j51.2)) else some (.out s47.2))
noncomputable def KBa(a0:List UInt8):Option (zAa × Bool):=
 (iter (wFa a0) ((0,([]:List zia)))).bind fun b2=>(bif decide (60 < (b2.2.length:Int)) then some (((zAa.mk ([]) ([])),false)) else (iter (wGa) ((0,b2.2))).bind fun b34=>(iter (vya a0) ((b2.1,([]:List UInt8)))).bind fun b48=>(y4a ((zAa.mk b34 b48))).bind fun v74=>(bif (v74.Code !=0) then some (((zAa.mk ([]) ([])),false)) else some (((zAa.mk b34 b48),true))))
noncomputable def kWa(a0:Str)(a1:Int)(a2:Int):Option zua:=
 ((yka a0).bind fun v2=>(bif (!v2) then some true else some (decide (40 < (a0.length:Int)))):Option Bool).bind fun (j1:Bool)=>(bif j1 then (zwa 10 ((-20))).bind fun v6=>some v6 else ((bif decide (a1 < 1) then some true else some (decide (12000 < a1))):Option Bool).bind fun (j8:Bool)=>(bif j8 then (zwa 3 ((-21))).bind fun v11=>some v11 else ((bif decide (a2 < 1) then some true else some (decide (60 < a2))):Option Bool).bind fun (j13:Bool)=>(bif j13 then (zwa 3 ((-22))).bind fun v16=>some v16 else (kAa).bind fun v18=>some v18)))
noncomputable def wra(a0:Str)(a1:Int)(a2:Int):Option (zha × zsa × zua):=
 (kWa a0 a1 a2).bind fun v1=>(z5a v1).bind fun v3=>(bif v3 then some (((zha.mk (([]:Str)) 0 0 0 false false (([]:Str)) ([]) ([]) ([]) 0 0 false 0 false false 0),(zsa.mk 0 ([])),v1)) else (kAa).bind fun v6=>some (((zha.mk a0 a1 a2 0 false false (([]:Str)) ([]) ([]) ([]) 0 0 false 0 false false 0),(zsa.mk 220 (([a0]:List Str))),v6)))
def kSa(a0:Int)(a1:Int)(a2:Int):Option Bool:=
 ((bif decide (a1<=a0) then some (decide (a0<=a2)) else some false):Option Bool).bind fun (j1:Bool)=>some j1
def vza(a0:List UInt8)(a1:List UInt8):Option Bool:=
 (jEa a0 a1).bind fun v1=>some ((v1 !=(-1)))
def wVa(a0:zha):Option Bool:=
 ((bif (a0.Left==0) then (bif (!a0.Last) then some ((!a0.Ignore)) else some false) else some false):Option Bool).bind fun (j1:Bool)=>(bif (a0.Phase==0) then ((bif decide ((a0.Buffer.length:Int) < 4002) then (vza a0.Buffer (([(13:UInt8),(10:UInt8)]:List UInt8))).bind fun v7=>(bif (!v7) then (bif (a0.Dots==0) then some j1 else some false) else some false) else some false):Option Bool).bind fun (j5:Bool)=>some j5 else (bif (a0.Phase==1) then ((bif decide (0 < (a0.To.length:Int)) then (bif (!a0.Chunked) then (bif ((a0.Buffer.length:Int)==0) then (kSa a0.Dots 0 4).bind fun v16=>(bif v16 then some j1 else some false) else some false) else some false) else some false):Option Bool).bind fun (j12:Bool)=>some j12 else (bif (a0.Phase==2) then ((bif (a0.Ignore==((a0.To.length:Int)==0)) then (bif (a0.Ignore==(!a0.Chunked)) then (bif ((a0.Buffer.length:Int)==0) then (bif (a0.Dots==0) then (kSa a0.Left 1 1000000).bind fun v25=>some v25 else some false) else some false) else some false) else some false):Option Bool).bind fun (j20:Bool)=>some j20 else (bif (a0.Phase==3) then ((bif (!a0.Mailing) then (bif ((a0.Buffer.length:Int)==0) then (bif (a0.Dots==0) then some j1 else some false) else some false) else some false):Option Bool).bind fun (j28:Bool)=>some j28 else some false))))
noncomputable def v1a(a0:zha):Option Bool:=
 ((bif (a0.From !=([]:Str)) then (kqa a0.From).bind fun v3=>(bif (!v3) then some true else (bif decide (a0.Many < (a0.To.length:Int)) then some true else (kDa a0.To).bind fun v7=>(z5a v7).bind fun v9=>some v9)) else (bif decide (a0.Many < (a0.To.length:Int)) then some true else (kDa a0.To).bind fun v12=>(z5a v12).bind fun v14=>some v14)):Option Bool).bind fun (j1:Bool)=>(bif j1 then some false else ((bif (!a0.Greeted) then (bif a0.Mailing then some true else (bif (!a0.Mailing) then (bif (a0.From !=([]:Str)) then some true else (bif decide (0 < (a0.To.length:Int)) then some true else (bif a0.Chunked then some (((a0.To.length:Int)==0)) else some false))) else (bif a0.Chunked then some (((a0.To.length:Int)==0)) else some false))) else (bif (!a0.Mailing) then (bif (a0.From !=([]:Str)) then some true else (bif decide (0 < (a0.To.length:Int)) then some true else (bif a0.Chunked then some (((a0.To.length:Int)==0)) else some false))) else (bif a0.Chunked then some (((a0.To.length:Int)==0)) else some false))):Option Bool).bind fun (j17:Bool)=>(bif j17 then some false else ((bif decide (a0.Size < (a0.Data.length:Int)) then some true else (kSa a0.Lost 0 1099511627776).bind fun v33=>(bif (!v33) then some true else (kSa a0.Count 0 1000000).bind fun v36=>some ((!v36)))):Option Bool).bind fun (j31:Bool)=>(bif j31 then some false else ((bif decide (0 < (a0.Data.length:Int)) then (bif (!a0.Chunked) then some ((a0.Phase !=1)) else some false) else (bif decide (0 < a0.Lost) then (bif (!a0.Chunked) then some ((a0.Phase !=1)) else some false) else some false)):Option Bool).bind fun (j39:Bool)=>(bif j39 then some false else (wVa a0).bind fun v45=>some v45))))
noncomputable def zpa(a0:List zca):Option (List zca):=
 (nilE a0.isEmpty (some ([])) ((app 5864062014805 ([]:List zca) a0).bind fun v2=>some v2))
noncomputable def kxa(a0:List UInt8):Option (List UInt8):=
 (nilE a0.isEmpty (some ([])) ((app 140737488355328 ([]:List UInt8) a0).bind fun v2=>some v2))
def qsa(a0:List UInt8)(a1:List UInt8):Option ((List UInt8) × Bool):=
 (kGa a0 a1).bind fun v1=>(bif (!v1) then some ((a0,false)) else (cut a0 0 ((w64 ((a0.length:Int) - (a1.length:Int))))).bind fun v4=>some ((v4,true)))
def zoa(a0:zea)(a1:Int)(a2:List Str):Option zea:=
 (app 4398046511104 a0.replies (([(zsa.mk a1 a2)]:List zsa))).bind fun v1=>some ((zea.mk a0.Server v1 a0.mails))
def zYa(a0:zea):Option zea:=
 some ((zea.mk ((zha.mk a0.Server.Name a0.Server.Size a0.Server.Many a0.Server.Phase a0.Server.Greeted false (([]:Str)) ([]) a0.Server.Buffer (([]:List UInt8)) 0 a0.Server.Dots false a0.Server.Left a0.Server.Last a0.Server.Ignore a0.Server.Count)) a0.replies a0.mails))
def kOa(a0:zea):Option zea:=
 (zYa a0).bind fun v1=>some ((zea.mk ((zha.mk v1.Server.Name v1.Server.Size v1.Server.Many 3 v1.Server.Greeted v1.Server.Mailing v1.Server.From v1.Server.To (([]:List UInt8)) v1.Server.Data v1.Server.Lost v1.Server.Dots v1.Server.Chunked v1.Server.Left v1.Server.Last v1.Server.Ignore v1.Server.Count)) v1.replies v1.mails))
noncomputable def kla(a0:zea)(a1:zka):Option zea:=
 (zpa a0.Server.To).bind fun v1=>(app 5864062014805 v1 (([(zca.mk a1.Address a1.Notify)]:List zca))).bind fun v3=>(vta v3).bind fun v5=>((bif (!a0.Server.Mailing) then some true else some a0.Server.Chunked):Option Bool).bind fun (j7:Bool)=>(bif j7 then (zoa a0 503 (([([111,114,100,101,114]:Str)]:List Str))).bind fun v10=>some v10 else (bif decide (a0.Server.Many < (v5.1.length:Int)) then (zoa a0 452 (([([109,97,110,121]:Str)]:List Str))).bind fun v13=>some v13 else (zoa ((zea.mk ((zha.mk a0.Server.Name a0.Server.Size a0.Server.Many a0.Server.Phase a0.Server.Greeted a0.Server.Mailing a0.Server.From v5.1 a0.Server.Buffer a0.Server.Data a0.Server.Lost a0.Server.Dots a0.Server.Chunked a0.Server.Left a0.Server.Last a0.Server.Ignore a0.Server.Count)) a0.replies a0.mails)) 250 (([([111,107]:Str)]:List Str))).bind fun v15=>some v15))
noncomputable def z3a(a0:zea):Option zea:=
 (wTa a0.Server.Data).bind fun v1=>((bif decide (0 < a0.Server.Lost) then (zoa a0 552 (([([108,97,114,103,101]:Str)]:List Str))).bind fun v5=>some v5 else ((z5a v1.2).bind fun v8=>(bif v8 then some true else some ((a0.Server.Count==1000000))):Option Bool).bind fun (j7:Bool)=>(bif j7 then (zoa a0 554 (([([114,101,102,117,115,101,100]:Str)]:List Str))).bind fun v12=>some v12 else (cat a0.Server.Name (([45]:Str))).bind fun v14=>(z8a ((w64 (a0.Server.Count+1)))).bind fun v16=>(cat v14 v16).bind fun v18=>(zpa a0.Server.To).bind fun v20=>(app 1353245080339 a0.mails (([(zEa.mk ((kNa.mk a0.Server.From v20 v18)) v1.1)]:List zEa))).bind fun v22=>(zoa ((zea.mk ((zha.mk a0.Server.Name a0.Server.Size a0.Server.Many a0.Server.Phase a0.Server.Greeted a0.Server.Mailing a0.Server.From a0.Server.To a0.Server.Buffer a0.Server.Data a0.Server.Lost a0.Server.Dots a0.Server.Chunked a0.Server.Left a0.Server.Last a0.Server.Ignore ((w64 (a0.Server.Count+1))))) a0.replies v22)) 250 (([v18]:List Str))).bind fun v24=>some v24)):Option zea).bind fun (j3:zea)=>(zYa j3).bind fun v26=>some v26
noncomputable def kca(a0:zea):Option zea:=
 (bif a0.Server.Ignore then (zoa ((zea.mk ((zha.mk a0.Server.Name a0.Server.Size a0.Server.Many 0 a0.Server.Greeted a0.Server.Mailing a0.Server.From a0.Server.To a0.Server.Buffer a0.Server.Data a0.Server.Lost a0.Server.Dots a0.Server.Chunked a0.Server.Left false false a0.Server.Count)) a0.replies a0.mails)) 503 (([([111,114,100,101,114]:Str)]:List Str))).bind fun v2=>some v2 else (bif a0.Server.Last then (z3a ((zea.mk ((zha.mk a0.Server.Name a0.Server.Size a0.Server.Many 0 a0.Server.Greeted a0.Server.Mailing a0.Server.From a0.Server.To a0.Server.Buffer a0.Server.Data a0.Server.Lost a0.Server.Dots a0.Server.Chunked a0.Server.Left false false a0.Server.Count)) a0.replies a0.mails))).bind fun v5=>some v5 else (zoa ((zea.mk ((zha.mk a0.Server.Name a0.Server.Size a0.Server.Many 0 a0.Server.Greeted a0.Server.Mailing a0.Server.From a0.Server.To a0.Server.Buffer a0.Server.Data a0.Server.Lost a0.Server.Dots a0.Server.Chunked a0.Server.Left false false a0.Server.Count)) a0.replies a0.mails)) 250 (([([111,107]:Str)]:List Str))).bind fun v7=>some v7))
noncomputable def kya(a0:zea)(a1:zka):Option zea:=
 (bif (a1.Verb==1) then (zYa a0).bind fun v2=>(z8a v2.Server.Size).bind fun v4=>(cat (([115,105,122,101,32]:Str)) v4).bind fun v6=>(z8a v2.Server.Many).bind fun v8=>(cat (([114,101,99,105,112,105,101,110,116,115,32]:Str)) v8).bind fun v10=>(zoa ((zea.mk ((zha.mk v2.Server.Name v2.Server.Size v2.Server.Many v2.Server.Phase true v2.Server.Mailing v2.Server.From v2.Server.To v2.Server.Buffer v2.Server.Data v2.Server.Lost v2.Server.Dots v2.Server.Chunked v2.Server.Left v2.Server.Last v2.Server.Ignore v2.Server.Count)) v2.replies v2.mails)) 250 (([v2.Server.Name,v6,v10]:List Str))).bind fun v12=>some v12 else (bif (a1.Verb==2) then ((bif (!a0.Server.Greeted) then some true else some a0.Server.Mailing):Option Bool).bind fun (j15:Bool)=>(bif j15 then (zoa a0 503 (([([111,114,100,101,114]:Str)]:List Str))).bind fun v18=>some v18 else (bif decide (a0.Server.Size < a1.Size) then (zoa a0 552 (([([108,97,114,103,101]:Str)]:List Str))).bind fun v21=>some v21 else (zoa ((zea.mk ((zha.mk a0.Server.Name a0.Server.Size a0.Server.Many a0.Server.Phase a0.Server.Greeted true a1.Address a0.Server.To a0.Server.Buffer a0.Server.Data a0.Server.Lost a0.Server.Dots a0.Server.Chunked a0.Server.Left a0.Server.Last a0.Server.Ignore a0.Server.Count)) a0.replies a0.mails)) 250 (([([111,107]:Str)]:List Str))).bind fun v23=>some v23)) else (bif (a1.Verb==3) then (kla a0 a1).bind fun v26=>some v26 else (bif (a1.Verb==4) then ((bif ((a0.Server.To.length:Int)==0) then some true else some a0.Server.Chunked):Option Bool).bind fun (j29:Bool)=>(bif j29 then (zoa a0 503 (([([111,114,100,101,114]:Str)]:List Str))).bind fun v32=>some v32 else (zoa ((zea.mk ((zha.mk a0.Server.Name a0.Server.Size a0.Server.Many 1 a0.Server.Greeted a0.Server.Mailing a0.Server.From a0.Server.To a0.Server.Buffer a0.Server.Data a0.Server.Lost a0.Server.Dots a0.Server.Chunked a0.Server.Left a0.Server.Last a0.Server.Ignore a0.Server.Count)) a0.replies a0.mails)) 354 (([([103,111,32,111,110]:Str)]:List Str))).bind fun v34=>some v34) else (bif (a1.Verb==5) then (bif (a1.Size==0) then (kca ((zea.mk ((zha.mk a0.Server.Name a0.Server.Size a0.Server.Many 2 a0.Server.Greeted a0.Server.Mailing a0.Server.From a0.Server.To a0.Server.Buffer a0.Server.Data a0.Server.Lost a0.Server.Dots ((!(((a0.Server.To.length:Int)==0)))) a1.Size a1.Last (((a0.Server.To.length:Int)==0)) a0.Server.Count)) a0.replies a0.mails))).bind fun v38=>some v38 else some ((zea.mk ((zha.mk a0.Server.Name a0.Server.Size a0.Server.Many 2 a0.Server.Greeted a0.Server.Mailing a0.Server.From a0.Server.To a0.Server.Buffer a0.Server.Data a0.Server.Lost a0.Server.Dots ((!(((a0.Server.To.length:Int)==0)))) a1.Size a1.Last (((a0.Server.To.length:Int)==0)) a0.Server.Count)) a0.replies a0.mails))) else (bif (a1.Verb==6) then (zYa a0).bind fun v41=>(zoa v41 250 (([([111,107]:Str)]:List Str))).bind fun v43=>some v43 else (bif (a1.Verb==7) then (zoa a0 250 (([([111,107]:Str)]:List Str))).bind fun v46=>some v46 else (bif (a1.Verb==8) then (zoa a0 221 (([([98,121,101]:Str)]:List Str))).bind fun v49=>(kOa v49).bind fun v51=>some v51 else some a0))))))))
noncomputable def k0a(a0:zea)(a1:UInt8):Option zea:=
 (app 140737488355328 a0.Server.Buffer (([a1]:List UInt8))).bind fun v1=>(qsa v1 (([(13:UInt8),(10:UInt8)]:List UInt8))).bind fun v3=>(bif (!v3.2) then ((bif ((v1.length:Int)==4002) then (zoa ((zea.mk ((zha.mk a0.Server.Name a0.Server.Size a0.Server.Many a0.Server.Phase a0.Server.Greeted a0.Server.Mailing a0.Server.From a0.Server.To v1 a0.Server.Data a0.Server.Lost a0.Server.Dots a0.Server.Chunked a0.Server.Left a0.Server.Last a0.Server.Ignore a0.Server.Count)) a0.replies a0.mails)) 500 (([([117,110,107,110,111,119,110]:Str)]:List Str))).bind fun v8=>(kOa v8).bind fun v10=>some v10 else some ((zea.mk ((zha.mk a0.Server.Name a0.Server.Size a0.Server.Many a0.Server.Phase a0.Server.Greeted a0.Server.Mailing a0.Server.From a0.Server.To v1 a0.Server.Data a0.Server.Lost a0.Server.Dots a0.Server.Chunked a0.Server.Left a0.Server.Last a0.Server.Ignore a0.Server.Count)) a0.replies a0.mails))):Option zea).bind fun (j6:zea)=>some j6 else (vYa v3.1).bind fun v12=>(bif (v12.2.Code==0) then (kya ((zea.mk ((zha.mk a0.Server.Name a0.Server.Size a0.Server.Many a0.Server.Phase a0.Server.Greeted a0.Server.Mailing a0.Server.From a0.Server.To (([]:List UInt8)) a0.Server.Data a0.Server.Lost a0.Server.Dots a0.Server.Chunked a0.Server.Left a0.Server.Last a0.Server.Ignore a0.Server.Count)) a0.replies a0.mails)) v12.1).bind fun v15=>some v15 else (bif (v12.2.Code==18) then (zoa ((zea.mk ((zha.mk a0.Server.Name a0.Server.Size a0.Server.Many a0.Server.Phase a0.Server.Greeted a0.Server.Mailing a0.Server.From a0.Server.To (([]:List UInt8)) a0.Server.Data a0.Server.Lost a0.Server.Dots a0.Server.Chunked a0.Server.Left a0.Server.Last a0.Server.Ignore a0.Server.Count)) a0.replies a0.mails)) 500 (([([117,110,107,110,111,119,110]:Str)]:List Str))).bind fun v18=>some v18 else (zoa ((zea.mk ((zha.mk a0.Server.Name a0.Server.Size a0.Server.Many a0.Server.Phase a0.Server.Greeted a0.Server.Mailing a0.Server.From a0.Server.To (([]:List UInt8)) a0.Server.Data a0.Server.Lost a0.Server.Dots a0.Server.Chunked a0.Server.Left a0.Server.Last a0.Server.Ignore a0.Server.Count)) a0.replies a0.mails)) 501 (([([115,121,110,116,97,120]:Str)]:List Str))).bind fun v20=>some v20)))
def z9a(a0:zea)(a1:UInt8):Option zea:=
 (bif decide ((a0.Server.Data.length:Int) < a0.Server.Size) then (app 140737488355328 a0.Server.Data (([a1]:List UInt8))).bind fun v2=>some ((zea.mk ((zha.mk a0.Server.Name a0.Server.Size a0.Server.Many a0.Server.Phase a0.Server.Greeted a0.Server.Mailing a0.Server.From a0.Server.To a0.Server.Buffer v2 a0.Server.Lost a0.Server.Dots a0.Server.Chunked a0.Server.Left a0.Server.Last a0.Server.Ignore a0.Server.Count)) a0.replies a0.mails)) else some ((zea.mk ((zha.mk a0.Server.Name a0.Server.Size a0.Server.Many a0.Server.Phase a0.Server.Greeted a0.Server.Mailing a0.Server.From a0.Server.To a0.Server.Buffer a0.Server.Data ((min ((w64 (a0.Server.Lost+1))) 1099511627776)) a0.Server.Dots a0.Server.Chunked a0.Server.Left a0.Server.Last a0.Server.Ignore a0.Server.Count)) a0.replies a0.mails)))
def kda(a1:UInt8)(j1:zea):Option zea:=
 (z9a j1 a1).bind fun v2=>(bif ((a1.toNat:Int)==13) then some ((zea.mk ((zha.mk v2.Server.Name v2.Server.Size v2.Server.Many v2.Server.Phase v2.Server.Greeted v2.Server.Mailing v2.Server.From v2.Server.To v2.Server.Buffer v2.Server.Data v2.Server.Lost 4 v2.Server.Chunked v2.Server.Left v2.Server.Last v2.Server.Ignore v2.Server.Count)) v2.replies v2.mails)) else ((bif ((a1.toNat:Int)==10) then some ((v2.Server.Dots==4)) else some false):Option Bool).bind fun (j5:Bool)=>(bif j5 then some ((zea.mk ((zha.mk v2.Server.Name v2.Server.Size v2.Server.Many v2.Server.Phase v2.Server.Greeted v2.Server.Mailing v2.Server.From v2.Server.To v2.Server.Buffer v2.Server.Data v2.Server.Lost 0 v2.Server.Chunked v2.Server.Left v2.Server.Last v2.Server.Ignore v2.Server.Count)) v2.replies v2.mails)) else some ((zea.mk ((zha.mk v2.Server.Name v2.Server.Size v2.Server.Many v2.Server.Phase v2.Server.Greeted v2.Server.Mailing v2.Server.From v2.Server.To v2.Server.Buffer v2.Server.Data v2.Server.Lost 3 v2.Server.Chunked v2.Server.Left v2.Server.Last v2.Server.Ignore v2.Server.Count)) v2.replies v2.mails))))
noncomputable def k1a(a0:zea)(a1:UInt8):Option zea:=
 ((bif (a0.Server.Dots==0) then some (((a1.toNat:Int)==46)) else some false):Option Bool).bind fun (j8:Bool)=>(bif j8 then some ((zea.mk ((zha.mk a0.Server.Name a0.Server.Size a0.Server.Many a0.Server.Phase a0.Server.Greeted a0.Server.Mailing a0.Server.From a0.Server.To a0.Server.Buffer a0.Server.Data a0.Server.Lost 1 a0.Server.Chunked a0.Server.Left a0.Server.Last a0.Server.Ignore a0.Server.Count)) a0.replies a0.mails)) else ((bif (a0.Server.Dots==1) then some (((a1.toNat:Int)==13)) else some false):Option Bool).bind fun (j11:Bool)=>(bif j11 then some ((zea.mk ((zha.mk a0.Server.Name a0.Server.Size a0.Server.Many a0.Server.Phase a0.Server.Greeted a0.Server.Mailing a0.Server.From a0.Server.To a0.Server.Buffer a0.Server.Data a0.Server.Lost 2 a0.Server.Chunked a0.Server.Left a0.Server.Last a0.Server.Ignore a0.Server.Count)) a0.replies a0.mails)) else ((bif (a0.Server.Dots==2) then some (((a1.toNat:Int)==10)) else some false):Option Bool).bind fun (j14:Bool)=>(bif j14 then (z3a ((zea.mk ((zha.mk a0.Server.Name a0.Server.Size a0.Server.Many 0 a0.Server.Greeted a0.Server.Mailing a0.Server.From a0.Server.To a0.Server.Buffer a0.Server.Data a0.Server.Lost 0 a0.Server.Chunked a0.Server.Left a0.Server.Last a0.Server.Ignore a0.Server.Count)) a0.replies a0.mails))).bind fun v17=>some v17 else (bif (a0.Server.Dots==2) then (z9a a0 ((13:UInt8))).bind fun v20=>(kda a1 v20) else (kda a1 a0)))))
noncomputable def qda(a1:List UInt8)(s20:Int × zea):Option (Step (Int × zea) zea):=
 (bif decide (s20.1 < (a1.length:Int)) then ((idx a1 s20.1).bind fun v25=>(bif (s20.2.Server.Phase==0) then (k0a s20.2 v25).bind fun v28=>some v28 else (bif (s20.2.Server.Phase==1) then (k1a s20.2 v25).bind fun v31=>some v31 else (bif (s20.2.Server.Phase==2) then ((bif (!s20.2.Server.Ignore) then (z9a s20.2 v25).bind fun v36=>some v36 else some s20.2):Option zea).bind fun (j34:zea)=>(bif ((w64 (j34.Server.Left - 1))==0) then (kca ((zea.mk ((zha.mk j34.Server.Name j34.Server.Size j34.Server.Many j34.Server.Phase j34.Server.Greeted j34.Server.Mailing j34.Server.From j34.Server.To j34.Server.Buffer j34.Server.Data j34.Server.Lost j34.Server.Dots j34.Server.Chunked ((w64 (j34.Server.Left - 1))) j34.Server.Last j34.Server.Ignore j34.Server.Count)) j34.replies j34.mails))).bind fun v39=>some v39 else some ((zea.mk ((zha.mk j34.Server.Name j34.Server.Size j34.Server.Many j34.Server.Phase j34.Server.Greeted j34.Server.Mailing j34.Server.From j34.Server.To j34.Server.Buffer j34.Server.Data j34.Server.Lost j34.Server.Dots j34.Server.Chunked ((w64 (j34.Server.Left - 1))) j34.Server.Last j34.Server.Ignore j34.Server.Count)) j34.replies j34.mails))) else some s20.2))):Option zea).bind fun (j24:zea)=>some (.cont ((w64 (s20.1+1)),j24)) else some (.out s20.2))
noncomputable def yxa(a0:zha)(a1:List UInt8):Option (zha × (List zsa) × (List zEa) × zua):=
 (kWa a0.Name a0.Size a0.Many).bind fun v1=>(z5a v1).bind fun v3=>(bif v3 then some (((zha.mk (([]:Str)) 0 0 0 false false (([]:Str)) ([]) ([]) ([]) 0 0 false 0 false false 0),[],[],v1)) else (v1a a0).bind fun v6=>(bif (!v6) then (zwa 5 ((-23))).bind fun v9=>some (((zha.mk (([]:Str)) 0 0 0 false false (([]:Str)) ([]) ([]) ([]) 0 0 false 0 false false 0),[],[],v9)) else (bif decide (40000 < (a1.length:Int)) then (zwa 1 ((-1))).bind fun v12=>some (((zha.mk (([]:Str)) 0 0 0 false false (([]:Str)) ([]) ([]) ([]) 0 0 false 0 false false 0),[],[],v12)) else (zpa a0.To).bind fun v14=>(kxa a0.Buffer).bind fun v16=>(kxa a0.Data).bind fun v18=>(iter (qda a1) ((0,(zea.mk ((zha.mk a0.Name a0.Size a0.Many a0.Phase a0.Greeted a0.Mailing a0.From v14 v16 v18 a0.Lost a0.Dots a0.Chunked a0.Left a0.Last a0.Ignore a0.Count)) (([]:List zsa)) (([]:List zEa)))))).bind fun b21=>(kAa).bind fun v41=>some ((b21.Server,b21.replies,b21.mails,v41)))))
def vOa(a0:zda)(a1:Int)(a2:Str):Option zda:=
 (app 4398046511104 a0.Replies (([(zsa.mk a1 (([a2]:List Str)))]:List zsa))).bind fun v1=>some ((zda.mk a0.S v1 a0.Mails))
def vma(a0:zda):Option zda:=
 some ((zda.mk ((zha.mk a0.S.Name a0.S.Size a0.S.Many a0.S.Phase a0.S.Greeted false (([]:Str)) ([]) a0.S.Buffer (([]:List UInt8)) 0 a0.S.Dots false a0.S.Left a0.S.Last a0.S.Ignore a0.S.Count)) a0.Replies a0.Mails))
noncomputable def jMa(a0:zda):Option zda:=
 (KBa a0.S.Data).bind fun v1=>(bif decide (0 < a0.S.Lost) then (vOa a0 552 (([108,97,114,103,101]:Str))).bind fun v4=>(vma v4).bind fun v6=>some v6 else ((bif (!v1.2) then some true else some ((a0.S.Count==1000000))):Option Bool).bind fun (j8:Bool)=>(bif j8 then (vOa a0 554 (([114,101,102,117,115,101,100]:Str))).bind fun v11=>(vma v11).bind fun v13=>some v13 else (cat a0.S.Name (([45]:Str))).bind fun v15=>(jJa ((w64 (a0.S.Count+1)))).bind fun v17=>(cat v15 v17).bind fun v19=>(app 1353245080339 a0.Mails (([(zEa.mk ((kNa.mk a0.S.From a0.S.To v19)) v1.1)]:List zEa))).bind fun v21=>(vOa ((zda.mk ((zha.mk a0.S.Name a0.S.Size a0.S.Many a0.S.Phase a0.S.Greeted a0.S.Mailing a0.S.From a0.S.To a0.S.Buffer a0.S.Data a0.S.Lost a0.S.Dots a0.S.Chunked a0.S.Left a0.S.Last a0.S.Ignore ((w64 (a0.S.Count+1))))) a0.Replies v21)) 250 v19).bind fun v23=>(vma v23).bind fun v25=>some v25))
noncomputable def jNa(a0:zda):Option zda:=
 (bif a0.S.Ignore then (vOa ((zda.mk ((zha.mk a0.S.Name a0.S.Size a0.S.Many 0 a0.S.Greeted a0.S.Mailing a0.S.From a0.S.To a0.S.Buffer a0.S.Data a0.S.Lost a0.S.Dots a0.S.Chunked a0.S.Left false false a0.S.Count)) a0.Replies a0.Mails)) 503 (([111,114,100,101,114]:Str))).bind fun v2=>some v2 else (bif a0.S.Last then (jMa ((zda.mk ((zha.mk a0.S.Name a0.S.Size a0.S.Many 0 a0.S.Greeted a0.S.Mailing a0.S.From a0.S.To a0.S.Buffer a0.S.Data a0.S.Lost a0.S.Dots a0.S.Chunked a0.S.Left false false a0.S.Count)) a0.Replies a0.Mails))).bind fun v5=>some v5 else (vOa ((zda.mk ((zha.mk a0.S.Name a0.S.Size a0.S.Many 0 a0.S.Greeted a0.S.Mailing a0.S.From a0.S.To a0.S.Buffer a0.S.Data a0.S.Lost a0.S.Dots a0.S.Chunked a0.S.Left false false a0.S.Count)) a0.Replies a0.Mails)) 250 (([111,107]:Str))).bind fun v7=>some v7))
def v2a(j1:zda):Option zda:=
 (vOa j1 250 (([111,107]:Str))).bind fun v2=>some v2
noncomputable def QSa(a0:zda)(a1:zka):Option zda:=
 (bif (a1.Verb==1) then (vma a0).bind fun v5=>(jJa v5.S.Size).bind fun v7=>(cat (([115,105,122,101,32]:Str)) v7).bind fun v9=>(jJa v5.S.Many).bind fun v11=>(cat (([114,101,99,105,112,105,101,110,116,115,32]:Str)) v11).bind fun v13=>(app 4398046511104 v5.Replies (([(zsa.mk 250 (([v5.S.Name,v9,v13]:List Str)))]:List zsa))).bind fun v15=>some ((zda.mk ((zha.mk v5.S.Name v5.S.Size v5.S.Many v5.S.Phase true v5.S.Mailing v5.S.From v5.S.To v5.S.Buffer v5.S.Data v5.S.Lost v5.S.Dots v5.S.Chunked v5.S.Left v5.S.Last v5.S.Ignore v5.S.Count)) v15 v5.Mails)) else (bif (a1.Verb==2) then ((bif (!a0.S.Greeted) then some true else some a0.S.Mailing):Option Bool).bind fun (j18:Bool)=>(bif j18 then (vOa a0 503 (([111,114,100,101,114]:Str))).bind fun v21=>some v21 else (bif decide (a0.S.Size < a1.Size) then (vOa a0 552 (([108,97,114,103,101]:Str))).bind fun v24=>some v24 else (v2a (zda.mk ((zha.mk a0.S.Name a0.S.Size a0.S.Many a0.S.Phase a0.S.Greeted true a1.Address a0.S.To a0.S.Buffer a0.S.Data a0.S.Lost a0.S.Dots a0.S.Chunked a0.S.Left a0.S.Last a0.S.Ignore a0.S.Count)) a0.Replies a0.Mails)))) else (bif (a1.Verb==3) then ((bif (!a0.S.Mailing) then some true else some a0.S.Chunked):Option Bool).bind fun (j27:Bool)=>(bif j27 then (vOa a0 503 (([111,114,100,101,114]:Str))).bind fun v30=>some v30 else (app 5864062014805 (([]:List zca)) a0.S.To).bind fun v32=>(app 5864062014805 v32 (([(zca.mk a1.Address a1.Notify)]:List zca))).bind fun v34=>(JAa v34).bind fun v36=>(bif decide (a0.S.Many < (v36.length:Int)) then (vOa a0 452 (([109,97,110,121]:Str))).bind fun v39=>some v39 else (v2a (zda.mk ((zha.mk a0.S.Name a0.S.Size a0.S.Many a0.S.Phase a0.S.Greeted a0.S.Mailing a0.S.From v36 a0.S.Buffer a0.S.Data a0.S.Lost a0.S.Dots a0.S.Chunked a0.S.Left a0.S.Last a0.S.Ignore a0.S.Count)) a0.Replies a0.Mails)))) else (bif (a1.Verb==4) then ((bif ((a0.S.To.length:Int)==0) then some true else some a0.S.Chunked):Option Bool).bind fun (j42:Bool)=>(bif j42 then (vOa a0 503 (([111,114,100,101,114]:Str))).bind fun v45=>some v45 else (vOa ((zda.mk ((zha.mk a0.S.Name a0.S.Size a0.S.Many 1 a0.S.Greeted a0.S.Mailing a0.S.From a0.S.To a0.S.Buffer a0.S.Data a0.S.Lost 0 a0.S.Chunked a0.S.Left a0.S.Last a0.S.Ignore a0.S.Count)) a0.Replies a0.Mails)) 354 (([103,111,32,111,110]:Str))).bind fun v47=>some v47) else (bif (a1.Verb==5) then ((bif (!(((a0.S.To.length:Int)==0))) then some ((zda.mk ((zha.mk a0.S.Name a0.S.Size a0.S.Many 2 a0.S.Greeted a0.S.Mailing a0.S.From a0.S.To a0.S.Buffer a0.S.Data a0.S.Lost a0.S.Dots true a1.Size a1.Last (((a0.S.To.length:Int)==0)) a0.S.Count)) a0.Replies a0.Mails)) else some ((zda.mk ((zha.mk a0.S.Name a0.S.Size a0.S.Many 2 a0.S.Greeted a0.S.Mailing a0.S.From a0.S.To a0.S.Buffer a0.S.Data a0.S.Lost a0.S.Dots a0.S.Chunked a1.Size a1.Last (((a0.S.To.length:Int)==0)) a0.S.Count)) a0.Replies a0.Mails))):Option zda).bind fun (j50:zda)=>(bif (a1.Size==0) then (jNa j50).bind fun v53=>some v53 else some j50) else (bif (a1.Verb==6) then (vma a0).bind fun v56=>(v2a v56) else (bif (a1.Verb==8) then (vma a0).bind fun v59=>(vOa ((zda.mk ((zha.mk v59.S.Name v59.S.Size v59.S.Many 3 v59.S.Greeted v59.S.Mailing v59.S.From v59.S.To v59.S.Buffer v59.S.Data v59.S.Lost v59.S.Dots v59.S.Chunked v59.S.Left v59.S.Last v59.S.Ignore v59.S.Count)) v59.Replies v59.Mails)) 221 (([98,121,101]:Str))).bind fun v61=>some v61 else (v2a a0))))))))
noncomputable def KCa(a0:zda)(a1:UInt8):Option zda:=
 (app 140737488355328 (([]:List UInt8)) a0.S.Buffer).bind fun v1=>(app 140737488355328 v1 (([a1]:List UInt8))).bind fun v3=>((bif decide (2<=(v3.length:Int)) then (idx v3 ((w64 ((v3.length:Int) - 2)))).bind fun v7=>(bif ((v7.toNat:Int)==13) then (idx v3 ((w64 ((v3.length:Int) - 1)))).bind fun v10=>some (((v10.toNat:Int)==10)) else some false) else some false):Option Bool).bind fun (j5:Bool)=>(bif j5 then (cut v3 0 ((w64 ((v3.length:Int) - 2)))).bind fun v13=>(KAa v13).bind fun v15=>(bif (v15.2.Code==18) then (vOa ((zda.mk ((zha.mk a0.S.Name a0.S.Size a0.S.Many a0.S.Phase a0.S.Greeted a0.S.Mailing a0.S.From a0.S.To ([]) a0.S.Data a0.S.Lost a0.S.Dots a0.S.Chunked a0.S.Left a0.S.Last a0.S.Ignore a0.S.Count)) a0.Replies a0.Mails)) 500 (([117,110,107,110,111,119,110]:Str))).bind fun v18=>some v18 else (bif (v15.2.Code !=0) then (vOa ((zda.mk ((zha.mk a0.S.Name a0.S.Size a0.S.Many a0.S.Phase a0.S.Greeted a0.S.Mailing a0.S.From a0.S.To ([]) a0.S.Data a0.S.Lost a0.S.Dots a0.S.Chunked a0.S.Left a0.S.Last a0.S.Ignore a0.S.Count)) a0.Replies a0.Mails)) 501 (([115,121,110,116,97,120]:Str))).bind fun v21=>some v21 else (QSa ((zda.mk ((zha.mk a0.S.Name a0.S.Size a0.S.Many a0.S.Phase a0.S.Greeted a0.S.Mailing a0.S.From a0.S.To ([]) a0.S.Data a0.S.Lost a0.S.Dots a0.S.Chunked a0.S.Left a0.S.Last a0.S.Ignore a0.S.Count)) a0.Replies a0.Mails)) v15.1).bind fun v23=>some v23)) else (bif ((v3.length:Int)==4002) then (vma ((zda.mk ((zha.mk a0.S.Name a0.S.Size a0.S.Many a0.S.Phase a0.S.Greeted a0.S.Mailing a0.S.From a0.S.To v3 a0.S.Data a0.S.Lost a0.S.Dots a0.S.Chunked a0.S.Left a0.S.Last a0.S.Ignore a0.S.Count)) a0.Replies a0.Mails))).bind fun v26=>(vOa ((zda.mk ((zha.mk v26.S.Name v26.S.Size v26.S.Many 3 v26.S.Greeted v26.S.Mailing v26.S.From v26.S.To ([]) v26.S.Data v26.S.Lost v26.S.Dots v26.S.Chunked v26.S.Left v26.S.Last v26.S.Ignore v26.S.Count)) v26.Replies v26.Mails)) 500 (([117,110,107,110,111,119,110]:Str))).bind fun v28=>some v28 else some ((zda.mk ((zha.mk a0.S.Name a0.S.Size a0.S.Many a0.S.Phase a0.S.Greeted a0.S.Mailing a0.S.From a0.S.To v3 a0.S.Data a0.S.Lost a0.S.Dots a0.S.Chunked a0.S.Left a0.S.Last a0.S.Ignore a0.S.Count)) a0.Replies a0.Mails))))
def KDa(a0:zda)(a1:UInt8):Option zda:=
 ((bif decide ((a0.S.Data.length:Int) < a0.S.Size) then (app 140737488355328 a0.S.Data (([a1]:List UInt8))).bind fun v3=>some ((zda.mk ((zha.mk a0.S.Name a0.S.Size a0.S.Many a0.S.Phase a0.S.Greeted a0.S.Mailing a0.S.From a0.S.To a0.S.Buffer v3 a0.S.Lost a0.S.Dots a0.S.Chunked a0.S.Left a0.S.Last a0.S.Ignore a0.S.Count)) a0.Replies a0.Mails)) else (bif decide (a0.S.Lost < 1099511627776) then some ((zda.mk ((zha.mk a0.S.Name a0.S.Size a0.S.Many a0.S.Phase a0.S.Greeted a0.S.Mailing a0.S.From a0.S.To a0.S.Buffer a0.S.Data ((w64 (a0.S.Lost+1))) a0.S.Dots a0.S.Chunked a0.S.Left a0.S.Last a0.S.Ignore a0.S.Count)) a0.Replies a0.Mails)) else some a0)):Option zda).bind fun (j1:zda)=>some j1
noncomputable def KEa(a0:zda)(a1:UInt8):Option zda:=
 ((bif (a0.S.Dots==0) then some (((a1.toNat:Int)==46)) else some false):Option Bool).bind fun (j1:Bool)=>(bif j1 then some ((zda.mk ((zha.mk a0.S.Name a0.S.Size a0.S.Many a0.S.Phase a0.S.Greeted a0.S.Mailing a0.S.From a0.S.To a0.S.Buffer a0.S.Data a0.S.Lost 1 a0.S.Chunked a0.S.Left a0.S.Last a0.S.Ignore a0.S.Count)) a0.Replies a0.Mails)) else ((bif (a0.S.Dots==1) then some (((a1.toNat:Int)==13)) else some false):Option Bool).bind fun (j4:Bool)=>(bif j4 then some ((zda.mk ((zha.mk a0.S.Name a0.S.Size a0.S.Many a0.S.Phase a0.S.Greeted a0.S.Mailing a0.S.From a0.S.To a0.S.Buffer a0.S.Data a0.S.Lost 2 a0.S.Chunked a0.S.Left a0.S.Last a0.S.Ignore a0.S.Count)) a0.Replies a0.Mails)) else ((bif (a0.S.Dots==2) then some (((a1.toNat:Int)==10)) else some false):Option Bool).bind fun (j7:Bool)=>(bif j7 then (jMa ((zda.mk ((zha.mk a0.S.Name a0.S.Size a0.S.Many 0 a0.S.Greeted a0.S.Mailing a0.S.From a0.S.To a0.S.Buffer a0.S.Data a0.S.Lost 0 a0.S.Chunked a0.S.Left a0.S.Last a0.S.Ignore a0.S.Count)) a0.Replies a0.Mails))).bind fun v10=>some v10 else ((bif (a0.S.Dots==2) then (KDa a0 ((13:UInt8))).bind fun v14=>some v14 else some a0):Option zda).bind fun (j12:zda)=>(KDa j12 a1).bind fun v16=>((bif ((a1.toNat:Int)==13) then some ((zda.mk ((zha.mk v16.S.Name v16.S.Size v16.S.Many v16.S.Phase v16.S.Greeted v16.S.Mailing v16.S.From v16.S.To v16.S.Buffer v16.S.Data v16.S.Lost 4 v16.S.Chunked v16.S.Left v16.S.Last v16.S.Ignore v16.S.Count)) v16.Replies v16.Mails)) else some ((zda.mk ((zha.mk v16.S.Name v16.S.Size v16.S.Many v16.S.Phase v16.S.Greeted v16.S.Mailing v16.S.From v16.S.To v16.S.Buffer v16.S.Data v16.S.Lost 3 v16.S.Chunked v16.S.Left v16.S.Last v16.S.Ignore v16.S.Count)) v16.Replies v16.Mails))):Option zda).bind fun (j18:zda)=>(((bif (a0.S.Dots==4) then some (((a1.toNat:Int)==10)) else some false):Option Bool).bind fun (j21:Bool)=>(bif j21 then some ((zda.mk ((zha.mk j18.S.Name j18.S.Size j18.S.Many j18.S.Phase j18.S.Greeted j18.S.Mailing j18.S.From j18.S.To j18.S.Buffer j18.S.Data j18.S.Lost 0 j18.S.Chunked j18.S.Left j18.S.Last j18.S.Ignore j18.S.Count)) j18.Replies j18.Mails)) else some j18):Option zda).bind fun (j20:zda)=>some j20)))
noncomputable def wWa(a1:List UInt8)(s3:Int × zda):Option (Step (Int × zda) zda):=
 (bif decide (s3.1 < (a1.length:Int)) then ((bif (s3.2.S.Phase==0) then (idx a1 s3.1).bind fun v9=>(KCa s3.2 v9).bind fun v11=>some v11 else (bif (s3.2.S.Phase==1) then (idx a1 s3.1).bind fun v14=>(KEa s3.2 v14).bind fun v16=>some v16 else (bif (s3.2.S.Phase==2) then ((bif (!s3.2.S.Ignore) then (idx a1 s3.1).bind fun v21=>(KDa s3.2 v21).bind fun v23=>some v23 else some s3.2):Option zda).bind fun (j19:zda)=>(bif ((w64 (j19.S.Left - 1))==0) then (jNa ((zda.mk ((zha.mk j19.S.Name j19.S.Size j19.S.Many j19.S.Phase j19.S.Greeted j19.S.Mailing j19.S.From j19.S.To j19.S.Buffer j19.S.Data j19.S.Lost j19.S.Dots j19.S.Chunked ((w64 (j19.S.Left - 1))) j19.S.Last j19.S.Ignore j19.S.Count)) j19.Replies j19.Mails))).bind fun v26=>some v26 else some ((zda.mk ((zha.mk j19.S.Name j19.S.Size j19.S.Many j19.S.Phase j19.S.Greeted j19.S.Mailing j19.S.From j19.S.To j19.S.Buffer j19.S.Data j19.S.Lost j19.S.Dots j19.S.Chunked ((w64 (j19.S.Left - 1))) j19.S.Last j19.S.Ignore j19.S.Count)) j19.Replies j19.Mails))) else some s3.2))):Option zda).bind fun (j7:zda)=>some (.cont ((w64 (s3.1+1)),j7)) else some (.out s3.2))
noncomputable def vAa(a0:zha):Option zua:=
 ((ZGa a0.Name).bind fun v2=>(bif (!v2) then some true else some (decide (40 < (a0.Name.length:Int)))):Option Bool).bind fun (j1:Bool)=>(bif j1 then (R_At 10 ((-20))).bind fun v6=>some v6 else (R_In a0.Size 1 12000).bind fun v8=>(bif (!v8) then (R_At 3 ((-21))).bind fun v11=>some v11 else (R_In a0.Many 1 60).bind fun v13=>(bif (!v13) then (R_At 3 ((-22))).bind fun v16=>some v16 else some ((zua.mk 0 0)))))
noncomputable def wXa(a0:Str)(a1:Int)(a2:Int):Option (zha × zsa × zua):=
 (vAa ((zha.mk a0 a1 a2 0 false false (([]:Str)) ([]) ([]) ([]) 0 0 false 0 false false 0))).bind fun v1=>(bif (v1.Code !=0) then some (((zha.mk (([]:Str)) 0 0 0 false false (([]:Str)) ([]) ([]) ([]) 0 0 false 0 false false 0),(zsa.mk 0 ([])),v1)) else some (((zha.mk a0 a1 a2 0 false false (([]:Str)) ([]) ([]) ([]) 0 0 false 0 false false 0),(zsa.mk 220 (([a0]:List Str))),v1)))
noncomputable def v3a(a0:zha)(a1:zha):Option Bool:=
 ((bif (a0.Name !=a1.Name) then some true else (bif (a0.Size !=a1.Size) then some true else (bif (a0.Many !=a1.Many) then some true else (bif (a0.Phase !=a1.Phase) then some true else (bif (a0.Greeted !=a1.Greeted) then some true else (bif (a0.Mailing !=a1.Mailing) then some true else (bif (a0.From !=a1.From) then some true else some ((a0.Chunked !=a1.Chunked))))))))):Option Bool).bind fun (j1:Bool)=>(bif j1 then some false else ((bif (a0.Buffer !=a1.Buffer) then some true else (bif (a0.Data !=a1.Data) then some true else (bif (a0.Lost !=a1.Lost) then some true else (bif (a0.Dots !=a1.Dots) then some true else (bif (a0.Left !=a1.Left) then some true else (bif (a0.Last !=a1.Last) then some true else (bif (a0.Ignore !=a1.Ignore) then some true else some ((a0.Count !=a1.Count))))))))):Option Bool).bind fun (j10:Bool)=>(bif j10 then some false else (qHa a0.To a1.To).bind fun v19=>some v19))
noncomputable def Zoa:Option Bool:=
 (wra (([109,120]:Str)) 1000 10).bind fun v1=>(yxa v1.1 (([(104:UInt8),(101:UInt8),(108:UInt8),(108:UInt8),(111:UInt8),(32:UInt8),(99:UInt8),(13:UInt8),(10:UInt8),(109:UInt8),(97:UInt8),(105:UInt8),(108:UInt8),(32:UInt8),(60:UInt8),(115:UInt8),(64:UInt8),(120:UInt8),(62:UInt8),(13:UInt8),(10:UInt8),(114:UInt8),(99:UInt8),(112:UInt8),(116:UInt8),(32:UInt8),(60:UInt8),(97:UInt8),(64:UInt8),(121:UInt8),(62:UInt8),(13:UInt8),(10:UInt8),(100:UInt8),(97:UInt8),(116:UInt8),(97:UInt8),(13:UInt8),(10:UInt8),(13:UInt8),(10:UInt8),(46:UInt8),(46:UInt8),(13:UInt8),(10:UInt8),(46:UInt8),(13:UInt8),(10:UInt8),(110:UInt8),(111:UInt8),(111:UInt8),(112:UInt8),(13:UInt8),(10:UInt8)]:List UInt8))).bind fun v3=>(wra (([]:Str)) 1 1).bind fun v5=>((bif (v1.2.2.Code !=0) then some true else (bif (v3.2.2.2.Code !=0) then some true else (R_At 10 ((-20))).bind fun v10=>(bif (!(yaa [(v5.2.2.Code==v10.Code),(v5.2.2.Index==v10.Index)])) then some true else (bif (v1.2.1.Code !=220) then some true else (bif ((v3.2.1.length:Int) !=6) then some true else (bif ((v3.2.2.1.length:Int) !=1) then some true else (idx v3.2.2.1 0).bind fun v16=>some (((v16.Envelope.To.length:Int) !=1)))))))):Option Bool).bind fun (j7:Bool)=>(bif j7 then some false else ((idx v3.2.1 3).bind fun v20=>(bif (v20.Code==354) then (idx v3.2.1 4).bind fun v23=>(jja v23.Lines (([([109,120,45,49]:Str)]:List Str))).bind fun v25=>(bif v25 then (idx v3.2.1 5).bind fun v28=>(bif (v28.Code==250) then (bif (v3.1.Count==1) then (idx v3.2.2.1 0).bind fun v32=>(bif (v32.Envelope.From==([115,64,120]:Str)) then (idx v3.2.2.1 0).bind fun v35=>(bif (v35.Envelope.Id==([109,120,45,49]:Str)) then (idx v3.2.2.1 0).bind fun v38=>some ((v38.Message.Body==([46,13,10]:Str))) else some false) else some false) else some false) else some false) else some false) else some false):Option Bool).bind fun (j19:Bool)=>some j19)
noncomputable def kPa(a0:Str)(a1:Int)(a2:Int):Option Bool:=
 (wra a0 a1 a2).bind fun v1=>(wXa a0 a1 a2).bind fun v3=>((Zoa).bind fun v6=>(bif v6 then (bif (yaa [(v1.2.2.Code==v3.2.2.Code),(v1.2.2.Index==v3.2.2.Index)]) then (v3a v1.1 v3.1).bind fun v10=>(bif v10 then (yva v1.2.1 v3.2.1).bind fun v13=>some v13 else some false) else some false) else some false):Option Bool).bind fun (j5:Bool)=>some j5
section
theorem w4b(a b:Nat)(h:a+b<=9223372036854775807):w64 ((a:Int)+(b:Int))=((a+b:Nat):Int):=by
 rw[qGa (by omega) (by omega)];simp
theorem w64_nl(a k:Nat)(h:a+OfNat.ofNat k<=9223372036854775807):w64 ((a:Int)+(no_index (OfNat.ofNat k:Int)))=((a+OfNat.ofNat k:Nat):Int):=by
 have e:(OfNat.ofNat k:Int)=((OfNat.ofNat k:Nat):Int):=rfl;rw[e];exact w4b a _ h
theorem w64_ns(a b:Nat)(h:b<=a)(ha:a<=9223372036854775807):w64 ((a:Int) - (b:Int))=((a - b:Nat):Int):=by
 rw[qGa (by omega) (by omega)];omega
theorem j3a(a:Nat)(h:a<=9223372036854775807):w64 (a:Int)=(a:Int):=qGa (by omega) (by omega)
theorem qNa(c:UInt8)(k:Nat)(hk:OfNat.ofNat k < 256):((c.toNat:Int)==no_index (OfNat.ofNat k:Int))=(c==OfNat.ofNat k):=by
 have e:(OfNat.ofNat k:Int)=((OfNat.ofNat k:Nat):Int):=rfl;have h2:(OfNat.ofNat k:UInt8).toNat=(OfNat.ofNat k:Nat):=by
  show (UInt8.ofNat k).toNat=k;rw[UInt8.toNat_ofNat'];exact Nat.mod_eq_of_lt hk
 rw[Bool.eq_iff_iff,beq_iff_eq,beq_iff_eq,<-UInt8.toNat_inj,h2,e];omega
theorem ZSa(c:UInt8)(k:Nat)(hk:OfNat.ofNat k < 256):((c.toNat:Int) !=no_index (OfNat.ofNat k:Int))=(c !=OfNat.ofNat k):=by
 unfold bne;rw[qNa c k hk]
section
variable {α:Type}
theorem wsa(l:List α)(i:Nat):idx l (i:Int)=l[i]? :=by unfold idx;rw[if_pos (by omega)];simp
theorem Vja{l:List α}{i:Nat}(h:i < l.length):idx l (i:Int)=some l[i]:=by rw[wsa];exact List.getElem?_eq_getElem h
theorem kOb(p:List α)(x:α)(r:List α):idx (p++x::r) (p.length:Int)=some x:=by rw[wsa];simp
theorem qFb{l:List α}{a b:Nat}(h1:a<=b)(h2:b<=l.length):cut l (a:Int) (b:Int)=some ((l.drop a).take (b - a)):=by
 unfold cut;rw[if_pos (by omega)];simp
theorem ySa{l:List α}{a:Nat}(h1:a<=l.length):cut l (a:Int) (l.length:Int)=some (l.drop a):=by
 rw[qFb h1 (Nat.le_refl _)];rw[List.take_of_length_le (by simp)]
theorem jZa{l:List α}{b:Nat}(h2:b<=l.length):cut l 0 (b:Int)=some (l.take b):=by
 have:=qFb (l:=l) (a:=0) (b:=b) (by omega) h2;simpa using this
theorem kna{lim:Nat}{l xs:List α}(h:l.length+xs.length<=lim):app lim l xs=some (l++xs):=by unfold app;rw[if_pos h]
theorem joa{a b:Str}(h:a.length+b.length<=9223372036854775807):cat a b=some (a++b):=by unfold cat;rw[if_pos h]
end
section
variable {A R:Type} {body:A->Option (Step A R)}
theorem VUa(Inv:A->Prop)(m:A->Nat)(Post:A->R->Prop)
 (h:∀s,Inv s->(∃r,body s=some (.out r)/\Post s r)∨∃s',body s=some (.cont s')/\Inv s' /\m s' < m s/\∀r,Post s' r->Post s r):
 ∀s,Inv s->∃r,iter body s=some r/\Post s r:=by
 intro s;induction hn:m s using Nat.strongRecOn generalizing s with
 | _ n ih=>
  intro hi;rcases h s hi with ⟨r,h1,h2⟩ | ⟨s',h1,h2,h3,h4⟩
  .exact ⟨r,zGa h1,h2⟩
  obtain ⟨r,h5,h6⟩:=ih (m s') (by omega) s' rfl h2;exact ⟨r,(zQa h1).trans h5,h4 r h6⟩
theorem w5b{α S:Type}(l:List α)(enc:Nat->S->A)(spec:Nat->List α->S->R)
 (h0:∀s,body (enc l.length s)=some (.out (spec l.length [] s)))
 (h1:∀p x r s,l=p++x::r->(body (enc p.length s)=some (.out (spec p.length (x::r) s)))∨∃s',body (enc p.length s)=some (.cont (enc (p.length+1) s'))/\spec p.length (x::r) s=spec (p.length+1) r s'):
 ∀{s0:A} (s:S) (_:s0=enc 0 s),iter body s0=some (spec 0 l s):=by
 have key:∀r p s,l=p++r->iter body (enc p.length s)=some (spec p.length r s):=by
  intro r;induction r with
  | nil=>
   intro p s h;have:p=l:=by simp[h]
   subst this;exact zGa (h0 s)
  | cons x r ih=>
   intro p s h;rcases h1 p x r s h with hb | ⟨s',hb,hs⟩
   .exact zGa hb
   rw[zQa hb,hs];have:=ih (p++ [x]) s' (by simp[h]);simpa using this
 rintro _ s rfl;exact key l [] s rfl
theorem YCa{α S:Type}(l:List α)(enc:Nat->S->A)(spec:Nat->List α->S->R)(Inv:Nat->List α->S->Prop)
 (h0:∀s,Inv l.length [] s->body (enc l.length s)=some (.out (spec l.length [] s)))
 (h1:∀p x r s,l=p++x::r->Inv p.length (x::r) s->(body (enc p.length s)=some (.out (spec p.length (x::r) s)))∨∃s',body (enc p.length s)=some (.cont (enc (p.length+1) s'))/\spec p.length (x::r) s=spec (p.length+1) r s' /\Inv (p.length+1) r s'):
 ∀{s0:A} (s:S) (_:s0=enc 0 s) (_:Inv 0 l s),iter body s0=some (spec 0 l s):=by
 have key:∀r p s,l=p++r->Inv p.length r s->iter body (enc p.length s)=some (spec p.length r s):=by
  intro r;induction r with
  | nil=>
   intro p s h hi;have:p=l:=by simp[h]
   subst this;exact zGa (h0 s hi)
  | cons x r ih=>
   intro p s h hi;rcases h1 p x r s h hi with hb | ⟨s',hb,hs,hi'⟩
   .exact zGa hb
   rw[zQa hb,hs];have:=ih (p++ [x]) s' (by simp[h]) (by simpa using hi');simpa using this
 rintro _ s rfl hi;exact key l [] s rfl hi
end
end
section
section
variable {α R O A S:Type}
def zFa(q:Nat->α->Option R):Nat->List α->Option R
 | _,[]=>none
 | i,x::r=>match q i x with | some y=>some y | none=>zFa q (i+1) r
theorem zVa(l:List α)(q:Nat->α->Option R)(oN:O)(oS:R->O){body:Int->Option (Step Int O)}(hl:body (l.length:Int)=some (.out oN))
 (hs:∀(i:Nat) x,l[i]? =some x->body (i:Int)=some ((q i x).elim (.cont ((i+1:Nat):Int)) fun r=>.out (oS r))):
 iter body 0=some ((zFa q 0 l).elim oN oS):=by
 have key:∀r p,l=p++r->iter body (p.length:Int)=some ((zFa q p.length r).elim oN oS):=by
  intro r;induction r with
  | nil=>
   intro p h;have:p=l:=by simp[h]
   subst this;exact zGa hl
  | cons x r ih=>
   intro p h;have hx:=hs p.length x (by simp[h]);unfold zFa;cases hq:q p.length x with
   | some y=>rw[hq]at hx;exact zGa hx
   | none=>
    rw[hq]at hx;rw[zQa hx];have:=ih (p++ [x]) (by simp[h]);simpa using this
 exact key l [] rfl
theorem ZIa(l:List α)(enc:Int->S->A)(f:Nat->S->α->S)(out:S->O)(Inv:Nat->S->Prop){body:A->Option (Step A O)}
 (hl:∀s,Inv l.length s->body (enc l.length s)=some (.out (out s)))
 (hs:∀(i:Nat) x s,l[i]? =some x->Inv i s->body (enc i s)=some (.cont (enc ((i+1:Nat):Int) (f i s x)))/\Inv (i+1) (f i s x)) (s:S) (h0:Inv 0 s):
 ∃t,iter body (enc 0 s)=some (out t)/\Inv l.length t/\t=(l.zipIdx.foldl (fun s p=>f p.2 s p.1) s):=by
 have key:∀r p s,l=p++r->Inv p.length s->∃t,iter body (enc (p.length:Int) s)=some (out t)/\Inv l.length t/\t=((r.zipIdx p.length).foldl (fun s p=>f p.2 s p.1) s):=by
  intro r;induction r with
  | nil=>
   intro p s h hi;have:p=l:=by simp[h]
   subst this;exact ⟨s,zGa (hl s hi),hi,rfl⟩
  | cons x r ih=>
   intro p s h hi;obtain ⟨h1,h2⟩:=hs p.length x s (by simp[h]) hi;rw[zQa h1];obtain ⟨t,h3,h4,h5⟩:=ih (p++ [x]) (f p.length s x) (by simp[h]) (by simpa using h2);refine ⟨t,by simpa using h3,h4,?_⟩;rw[h5];simp
 exact key l [] s rfl h0
theorem zsb(f:S->α->S)(l:List α):∀(n:Nat) (s:S),(l.zipIdx n).foldl (fun s p=>f s p.1) s=l.foldl f s:=by
 induction l with
 | nil=>intro n s;rfl
 | cons x r ih=>intro n s;simp[ih]
theorem jpa(l:List α)(enc:Int->S->A)(f:S->α->S)(out:S->O)(Inv:Nat->S->Prop){body:A->Option (Step A O)}
 (hl:∀s,Inv l.length s->body (enc l.length s)=some (.out (out s)))
 (hs:∀(i:Nat) x s,l[i]? =some x->Inv i s->body (enc i s)=some (.cont (enc ((i+1:Nat):Int) (f s x)))/\Inv (i+1) (f s x)) (s:S) (h0:Inv 0 s):
 iter body (enc 0 s)=some (out (l.foldl f s))/\Inv l.length (l.foldl f s):=by
 obtain ⟨t,h1,h2,h3⟩:=ZIa l enc (fun _=>f) out Inv hl hs s h0;have:t=l.foldl f s:=by rw[h3];exact zsb f l 0 s
 subst this;exact ⟨h1,h2⟩
theorem jqa(c:α->Bool)(r:R)(l:List α)(n:Nat):zFa (fun _ x=>if c x then some r else none) n l=if l.any c then some r else none:=by
 induction l generalizing n with
 | nil=>rfl
 | cons x l ih=>unfold zFa;cases h:c x <;> simp[h,ih]
theorem wta{q:Nat->α->Option R}{l:List α}{n:Nat}:zFa q n l=none↔∀(i:Nat) x,l[i]? =some x->q (n+i) x=none:=by
 induction l generalizing n with
 | nil=>simp[zFa]
 | cons x l ih=>
  unfold zFa;cases h:q n x with
  | some y=>
   simp only[reduceCtorEq,false_iff];intro hh;have:=hh 0 x rfl;rw[Nat.add_zero,h]at this;cases this
  | none=>
   rw[ih];constructor
   .intro hh i y hy;cases i with
    | zero=>simp at hy;subst hy;exact h
    | succ i=>rw[show n+(i+1)=n+1+i by omega];exact hh i y (by simpa using hy)
   intro hh i y hy;rw[show n+1+i=n+(i+1) by omega];exact hh (i+1) y (by simpa using hy)
theorem jOa{q:Nat->α->Option R}{l:List α}{n:Nat}{r:R}(h:zFa q n l=some r):∃(i:Nat) (x:α),l[i]? =some x/\q (n+i) x=some r:=by
 induction l generalizing n with
 | nil=>cases h
 | cons x l ih=>
  unfold zFa at h;cases hq:q n x with
  | some y=>rw[hq]at h;cases h;exact ⟨0,x,rfl,hq⟩
  | none=>
   rw[hq]at h;obtain ⟨i,y,h1,h2⟩:=ih h;exact ⟨i+1,y,by simpa using h1,by rw[show n+(i+1)=n+1+i by omega];exact h2⟩
theorem zXa{l:List α}{i:Nat}{x:α}(h:l[i]? =some x):i < l.length:=(List.getElem?_eq_some_iff.1 h).1
theorem kza{l:List α}{i:Nat}{x:α}(h:l[i]? =some x):decide ((i:Int) < (l.length:Int))=true:=by have:=zXa h;simp;omega
theorem zSa(l:List α):decide ((l.length:Int) < (l.length:Int))=false:=by simp
theorem zMa{l:List α}{i:Nat}{x:α}(h:l[i]? =some x):idx l (i:Int)=some x:=by rw[wsa];exact h
end
end
def Wqa(c:UInt8):Bool:=(decide (97<=c) && decide (c<=122)) || (decide (65<=c) && decide (c<=90)) || (decide (48<=c) && decide (c<=57))
def w7a(c:UInt8):Bool:=(decide (97<=c) && decide (c<=122)) || (decide (48<=c) && decide (c<=57)) || c==45 || c==46
def Vxa(c:UInt8):Bool:=Wqa c || c==45 || c==95 || c==46 || c==43 || c==61
def j0a:Bool->Str->Bool
 | p,[]=> !p
 | p,c::r=>if c=46 then !p && j0a true r else j0a false r
def domP(s:Str):Bool:=decide (s.length<=60) && s.all w7a && j0a true s
def atP(s:Str):Nat:=s.findIdx (· ==64)
def vna(s:Str):Bool:=decide (atP s < s.length) && decide (1<=atP s) && decide (atP s<=60) && (s.take (atP s)).all Vxa && domP (s.drop (atP s+1))
theorem yTa(k:Nat)(c:UInt8)(hk:OfNat.ofNat k < 256):decide ((no_index (OfNat.ofNat k:Int))<=(c.toNat:Int))=decide ((OfNat.ofNat k:UInt8)<=c):=by
 have e:(OfNat.ofNat k:Int)=((OfNat.ofNat k:Nat):Int):=rfl;have h2:(OfNat.ofNat k:UInt8).toNat=(OfNat.ofNat k:Nat):=by
  show (UInt8.ofNat k).toNat=k;rw[UInt8.toNat_ofNat'];exact Nat.mod_eq_of_lt hk
 rw[Bool.eq_iff_iff,decide_eq_true_eq,decide_eq_true_eq,UInt8.le_iff_toNat_le,h2,e];omega
theorem yUa(k:Nat)(c:UInt8)(hk:OfNat.ofNat k < 256):decide ((c.toNat:Int)<=(no_index (OfNat.ofNat k:Int)))=decide (c<=(OfNat.ofNat k:UInt8)):=by
 have e:(OfNat.ofNat k:Int)=((OfNat.ofNat k:Nat):Int):=rfl;have h2:(OfNat.ofNat k:UInt8).toNat=(OfNat.ofNat k:Nat):=by
  show (UInt8.ofNat k).toNat=k;rw[UInt8.toNat_ofNat'];exact Nat.mod_eq_of_lt hk
 rw[Bool.eq_iff_iff,decide_eq_true_eq,decide_eq_true_eq,UInt8.le_iff_toNat_le,h2,e];omega
theorem vJa(a b c:Int):R_In a b c=some (decide (b<=a) && decide (a<=c)):=by
 unfold R_In;cases decide (b<=a) <;> rfl
theorem yVa(c:UInt8):qka c=some (Wqa c):=by
 unfold qka Wqa;simp only[vJa,Option.bind_some,yTa 97 c (by decide),yUa 122 c (by decide),yTa 65 c (by decide),yUa 90 c (by decide),yTa 48 c (by decide),yUa 57 c (by decide)];generalize (decide ((97:UInt8)<=c) && decide (c<=122))=x;generalize (decide ((65:UInt8)<=c) && decide (c<=90))=y;cases x <;> cases y <;> simp
theorem Zpa(c:UInt8):vNa c=some (Wqa c):=by
 unfold vNa Wqa;simp only[yTa 97 c (by decide),yUa 122 c (by decide),yTa 65 c (by decide),yUa 90 c (by decide),yTa 48 c (by decide),yUa 57 c (by decide)];cases decide ((97:UInt8)<=c) <;> cases decide (c<=122) <;> cases decide ((65:UInt8)<=c) <;> cases decide (c<=90) <;> cases decide ((48:UInt8)<=c) <;> cases decide (c<=57) <;> rfl
def w4a(s:Str)(i:Nat):Bool:=if i=0 then true else s[i - 1]? ==some 46
def wua:Bool->Str->Bool
 | _,[]=>true
 | p,c::r=>if c=46 then !p && !r.isEmpty && wua true r else w7a c && wua false r
theorem ztb(p:Bool)(c:UInt8)(r:Str):wua p (c::r)=if c=46 then !p && !r.isEmpty && wua true r else w7a c && wua false r:=rfl
theorem vEb(s:Str)(p:Bool)(h:s≠ []∨p=false):wua p s=(s.all w7a && j0a p s):=by
 induction s generalizing p with
 | nil=>simp[wua,j0a];rcases h with h | h <;> simp_all
 | cons c r ih=>
  unfold wua j0a;by_cases hc:c=46
  .subst hc;simp only[if_true,List.all_cons,show w7a 46=true by decide,Bool.true_and];cases r with
   | nil=>simp[j0a]
   | cons d r=>
    rw[ih true (.inl (by simp))];cases p <;> simp
  rw[if_neg hc,if_neg hc];rw[ih false (.inr rfl),List.all_cons,Bool.and_assoc]
theorem Wra(s:Str)(hs:s.length<=9223372036854775806):iter (vga s) 0=some (if wua true s then .inl () else .inr false):=by
 have:=w5b (body:=vga s) s (fun i (_:Unit)=>(i:Int)) (fun i r _=>if wua (w4a s i) r then .inl () else .inr false) (fun _=>by
  unfold vga;rw[zSa];simp[wua]) (fun p c r _ h=>?_) (s0:=0) () rfl
 .simpa[w4a]using this
 have hc:s[p.length]? =some c:=by simp[h]
 have hidx:=zMa hc;have hlen:s.length=p.length+r.length+1:=by rw[h];simp;omega
 have e1:w64 ((s.length:Int) - 1)=((s.length - 1:Nat):Int):=by rw[qGa (by omega) (by omega)];omega
 have e2:w64 ((p.length:Int)+1)=((p.length+1:Nat):Int):=by rw[show ((p.length:Int)+1)=((p.length+1:Nat):Int) by omega,j3a _ (by omega)]
 have hbody:vga s (p.length:Int)=some (if c=46 then (if w4a s p.length || r.isEmpty then .out (.inr false) else .cont ((p.length+1:Nat):Int)) else if w7a c then .cont ((p.length+1:Nat):Int) else .out (.inr false)):=by
  unfold vga;rw[kza hc,hidx];simp only[cond_true,Option.bind_some,vJa,qNa c 46 (by decide),ZSa c 45 (by decide),ZSa c 46 (by decide),yTa 97 c (by decide),yUa 122 c (by decide),yTa 48 c (by decide),yUa 57 c (by decide),e1,e2];by_cases h46:c=46
  .subst h46;have hsm:(!(decide ((97:UInt8)<=46) && decide ((46:UInt8)<=122)))=true:=by decide
   have hsm2:(!(decide ((48:UInt8)<=46) && decide ((46:UInt8)<=57)))=true:=by decide
   simp only[beq_self_eq_true,cond_true,hsm,hsm2,if_true,bne_self_eq_false];by_cases h0:p.length=0
   .simp[h0,w4a]
   have h0' :((p.length:Int)==0)=false:=by rw[beq_eq_false_iff_ne];omega
   by_cases hl:r=[]
   .subst hl;have:((p.length:Int)==((s.length - 1:Nat):Int))=true:=by rw[hlen];simp
    simp[h0',this]
   have hr:r.isEmpty=false:=by simpa using hl
   have hrl:0 < r.length:=List.length_pos_iff.2 hl;have:((p.length:Int)==((s.length - 1:Nat):Int))=false:=by rw[hlen];simp;omega
   have e3:w64 ((p.length:Int) - 1)=((p.length - 1:Nat):Int):=by rw[qGa (by omega) (by omega)];omega
   have hlt:p.length - 1 < s.length:=by omega
   simp only[h0',this,cond_false,e3,Vja hlt,Option.bind_some,hr,Bool.or_false,w4a,if_neg h0,List.getElem?_eq_getElem hlt];rw[qNa _ 46 (by decide)];by_cases hd:s[p.length - 1]=46
   .simp[hd]
   have:(s[p.length - 1]==46)=false:=by simpa using hd
   simp[this,hd]
  have h1:(c==46)=false:=by simpa using h46
  have h2:(c !=46)=true:=by simpa using h46
  simp only[h1,cond_false,if_neg h46,Option.bind_some,w7a,h2];by_cases ha:(decide ((97:UInt8)<=c) && decide (c<=122))=true
  .simp[ha]
  have ha:(decide ((97:UInt8)<=c) && decide (c<=122))=false:=by simpa using ha
  by_cases hb:(decide ((48:UInt8)<=c) && decide (c<=57))=true
  .simp[ha,hb]
  have hb:(decide ((48:UInt8)<=c) && decide (c<=57))=false:=by simpa using hb
  by_cases h45:c=45
  .subst h45;simp[ha,hb]
  have:(c==45)=false:=by simpa using h45
  simp[ha,hb,this,bne]
 have hp1:w4a s (p.length+1)=decide (c=46):=by
  unfold w4a;simp only[Nat.add_sub_cancel,Nat.add_one_ne_zero,if_false,hc];rw[Bool.eq_iff_iff];simp
 rw[hbody];rw[ztb];by_cases h46:c=46
 .subst h46;simp only[if_true];cases hq:(w4a s p.length || r.isEmpty) with
  | true=>
   left;simp only[if_true];have:(!w4a s p.length && !r.isEmpty && wua true r)=false:=by
    cases hp:w4a s p.length <;> simp_all
   rw[this];rfl
  | false=>
   right;refine ⟨(),rfl,?_⟩;have h3:w4a s p.length=false:=by cases hp:w4a s p.length <;> simp_all
   have h4:r.isEmpty=false:=by cases hp:r.isEmpty <;> simp_all
   rw[h3,h4,hp1];simp
 simp only[if_neg h46];cases hq:w7a c with
 | true=>right;exact ⟨(),rfl,by rw[hp1];simp[h46]⟩
 | false=>left;simp
theorem JBa(s:Str)(hs:s.length<=9223372036854775806):QNa s=some (domP s):=by
 unfold QNa;rw[Wra s hs];by_cases hn:s=[]
 .subst hn;simp[wua,vJa,domP,j0a]
 rw[vEb s true (.inl hn)];have hpos:0 < s.length:=List.length_pos_iff.2 hn;unfold domP;cases h:(s.all w7a && j0a true s) with
 | false=>
  rw[Bool.and_assoc,h];simp
 | true=>
  rw[Bool.and_assoc,h];simp only[if_true,Option.bind_some,vJa,Bool.and_true,Sum.elim_inl,Option.some.injEq];rw[Bool.eq_iff_iff];simp;omega
theorem w6b(s:Str)(hs:s.length<=9223372036854775806):w2b s=some ((atP s:Nat):Int):=by
 unfold w2b;rw[zVa s (fun i c=>if c==64 then some (i:Int) else none) (.inl ()) .inr]
 .simp only[Option.bind_some];have key:∀(r:Str) (n:Nat),(zFa (fun i (c:UInt8)=>if c==64 then some (i:Int) else none) n r).getD ((n+r.length:Nat):Int)=((n+r.findIdx (· ==64):Nat):Int):=by
   intro r;induction r with
   | nil=>intro n;simp[zFa]
   | cons c r ih=>
    intro n;unfold zFa;rw[List.findIdx_cons];cases hc:(c==64) with
    | true=>simp
    | false=>
     simp only[Bool.false_eq_true,if_false,cond_false];have:=ih (n+1);rw[show n+(c::r).length=n+1+r.length by simp;omega,show n+(r.findIdx (· ==64)+1)=n+1+r.findIdx (· ==64) by omega];exact this
  have:=key s 0;rw[Nat.zero_add,Nat.zero_add]at this;unfold atP;rw[<-this];cases zFa (fun i (c:UInt8)=>if c==64 then some (i:Int) else none) 0 s <;> rfl
 .unfold Wna;rw[zSa];rfl
 intro i c hc;unfold Wna;have hi:=zXa hc;rw[kza hc,zMa hc];simp only[cond_true,Option.bind_some,qNa c 64 (by decide)];cases c==64 with
 | true=>rfl
 | false=>
  simp only[cond_false,Bool.false_eq_true,if_false];rw[show ((i:Int)+1)=((i+1:Nat):Int) by omega,j3a _ (by omega)];rfl
theorem Yea(s:Str)(hs:s.length<=9223372036854775806):ysa s=some (vna s):=by
 have hat:atP s<=s.length:=List.findIdx_le_length;unfold ysa;rw[w6b s hs];simp only[Option.bind_some];have hloop:iter (wBa s (atP s:Int)) 0=some ((zFa (fun _ c=>if !Vxa c then some false else none) 0 (s.take (atP s))).elim (.inl ()) .inr):=by
  refine zVa (s.take (atP s)) _ (Sum.inl ()) Sum.inr ?_ ?_
  .have:((s.take (atP s)).length:Int)=(atP s:Int):=by simp;omega
   unfold wBa;rw[this];simp
  intro i c hc;have hi:=zXa hc;simp at hi;have hc2:s[i]? =some c:=by rw[List.getElem?_take_of_lt (by omega)]at hc;exact hc
  unfold wBa;have:decide ((i:Int) < (atP s:Int))=true:=by simp;omega
  rw[this,zMa hc2];simp only[cond_true,Option.bind_some,yVa,ZSa c 45 (by decide),ZSa c 95 (by decide),ZSa c 46 (by decide),ZSa c 43 (by decide),ZSa c 61 (by decide)];rw[show ((i:Int)+1)=((i+1:Nat):Int) by omega,j3a _ (by omega)];unfold Vxa;cases Wqa c <;> cases h1:(c==45) <;> cases h2:(c==95) <;> cases h3:(c==46) <;> cases h4:(c==43) <;> cases h5:(c==61) <;> simp[bne,h1,h2,h3,h4,h5]
 rw[hloop,jqa];unfold vna;have hall:(s.take (atP s)).any (fun c=> !Vxa c)= !((s.take (atP s)).all Vxa):=by simp[List.not_all_eq_any_not]
 rw[hall];cases hg:(s.take (atP s)).all Vxa with
 | false=>simp
 | true=>
  simp only[Bool.not_true,Bool.false_eq_true,if_false,Option.bind_some,vJa,Bool.and_true];by_cases h1:1<=atP s/\atP s<=60
  .have e1:(decide ((1:Int)<=(atP s:Int)) && decide ((atP s:Int)<=60))=true:=by simp;omega
   rw[e1];by_cases h2:atP s < s.length
   .have e2:decide ((atP s:Int) < (s.length:Int))=true:=by simp;omega
    rw[e2];simp only[cond_true];rw[show ((atP s:Int)+1)=((atP s+1:Nat):Int) by omega,j3a _ (by omega),ySa (by omega)];simp only[Option.bind_some];rw[JBa _ (by simp;omega)];simp[h1,h2]
   have e2:decide ((atP s:Int) < (s.length:Int))=false:=by simp;omega
   rw[e2];simp[h2]
  have e1:(decide ((1:Int)<=(atP s:Int)) && decide ((atP s:Int)<=60))=false:=by
   rw[Bool.eq_false_iff];simp;omega
  rw[e1];simp only[cond_false,Option.bind_some]
  congr 1
  symm
  rcases Nat.lt_or_ge (atP s) 1 with h | h
  .have:decide (1<=atP s)=false:=by simp;omega
   rw[this];simp
  have:decide (atP s<=60)=false:=by simp;omega
  rw[this];simp
theorem JCa(s:Str):∀p,j0a p s=(!(p && (s.isEmpty || s.head? ==some 46)) && !(s.getLast? ==some 46) && !Lib.contains s [46,46]):=by
 induction s with
 | nil=>intro p;cases p <;> simp[j0a,Lib.contains,Lib.index]
 | cons c r ih=>
  intro p;have hcont:Lib.contains (c::r) [46,46]=((c==46 && r.head? ==some 46) || Lib.contains r [46,46]):=by
   unfold Lib.contains;rw[Lib.index];have hpre:([46,46]:List UInt8).isPrefixOf (c::r)=(c==46 && r.head? ==some 46):=by
    cases r with
    | nil=>simp[List.isPrefixOf]
    | cons d r=>simp only[List.isPrefixOf,List.head?_cons,Bool.and_true];rw[Bool.eq_iff_iff];simp;constructor <;> rintro ⟨rfl,rfl⟩ <;> exact ⟨rfl,rfl⟩
   rw[hpre];have hg:=Lib.index_ge r [46,46];cases c==46 && r.head? ==some 46 with
   | true=>simp
   | false=>
    simp only[Bool.false_eq_true,if_false,Bool.false_or];by_cases h:Lib.index r [46,46]= -1
    .simp[h]
    have:(Lib.index r [46,46]== -1)=false:=by simpa using h
    rw[this];simp only[Bool.false_eq_true,if_false];rw[Bool.eq_iff_iff];simp;omega
  rw[hcont,j0a];have hlast:(c::r).getLast? =if r.isEmpty then some c else r.getLast? :=by cases r <;> simp
  rw[hlast];by_cases hc:c=46
  .subst hc;rw[if_pos rfl,ih true];cases r with
   | nil=>simp
   | cons d r=>cases p <;> cases hd:(d==46) <;> simp_all [Bool.and_comm,Bool.and_assoc,Bool.and_left_comm]
  have h1:(c==46)=false:=by simpa using hc
  have h2:(some c==some (46:UInt8))=false:=by simpa using hc
  rw[if_neg hc,ih false];cases r with
  | nil=>simp[h1,h2,Lib.contains,Lib.index,hc]
  | cons d r=>simp[h1,h2,hc]
theorem ZTa(s t:Str):kBa s t=some (t.isPrefixOf s):=by
 unfold kBa z6a;by_cases h:t.length<=s.length
 .have:decide ((t.length:Int)<=(s.length:Int))=true:=by simp;omega
  rw[this,jZa h];simp only[cond_true,Option.bind_some,Option.some.injEq];rw[Bool.eq_iff_iff,beq_iff_eq,List.isPrefixOf_iff_prefix,List.prefix_iff_eq_take];constructor <;> exact fun h=>h.symm
 have:decide ((t.length:Int)<=(s.length:Int))=false:=by simp;omega
 rw[this];simp only[cond_false,Option.bind_some,Option.some.injEq]
 symm
 rw[Bool.eq_false_iff];intro hp;exact h (List.isPrefixOf_iff_prefix.1 hp).length_le
theorem ZUa(s t:Str)(hs:s.length<=9223372036854775806):kCa s t=some (t.isSuffixOf s):=by
 unfold kCa z7a;by_cases h:t.length<=s.length
 .have:decide ((t.length:Int)<=(s.length:Int))=true:=by simp;omega
  rw[this,w64_ns _ _ h (by omega),ySa (by omega)];simp only[cond_true,Option.bind_some,Option.some.injEq];rw[Bool.eq_iff_iff,beq_iff_eq,List.isSuffixOf_iff_suffix,List.suffix_iff_eq_drop];constructor <;> exact fun h=>h.symm
 have:decide ((t.length:Int)<=(s.length:Int))=false:=by simp;omega
 rw[this];simp only[cond_false,Option.bind_some,Option.some.injEq]
 symm
 rw[Bool.eq_false_iff];intro hp;exact h (List.isSuffixOf_iff_suffix.1 hp).length_le
theorem dom_char(c:UInt8):((bif decide ((97:UInt8)<=c) then (bif decide (c<=122) then some true else (bif decide ((48:UInt8)<=c) then (bif decide (c<=57) then some true else (bif (c==45) then some true else some (c==46))) else (bif (c==45) then some true else some (c==46)))) else (bif decide ((48:UInt8)<=c) then (bif decide (c<=57) then some true else (bif (c==45) then some true else some (c==46))) else (bif (c==45) then some true else some (c==46)))):Option Bool)=some (w7a c):=by
 unfold w7a;cases decide ((97:UInt8)<=c) <;> cases decide (c<=122) <;> cases decide ((48:UInt8)<=c) <;> cases decide (c<=57) <;> cases (c==45) <;> rfl
theorem Qaa(s:Str)(hs:s.length < 4294967281):q5a s=some (domP s):=by
 have hloop:iter (k9a s) 0=some ((zFa (fun _ c=>if !w7a c then some () else none) 0 s).elim (.inl ()) .inr):=by
  refine zVa s _ (Sum.inl ()) Sum.inr ?_ ?_
  .unfold k9a;rw[zSa];rfl
  intro i c hc;have hi:=zXa hc;unfold k9a;rw[kza hc,zMa hc];simp only[cond_true,Option.bind_some,qNa c 45 (by decide),qNa c 46 (by decide),yTa 97 c (by decide),yUa 122 c (by decide),yTa 48 c (by decide),yUa 57 c (by decide),dom_char];rw[show ((i:Int)+1)=((i+1:Nat):Int) by omega,j3a _ (by omega)];cases w7a c <;> rfl
 unfold q5a domP;rw[hloop,jqa,JCa];by_cases hn:s=[]
 .subst hn;simp
 have h1:(s !=([]:Str))=true:=by simpa using hn
 rw[h1];simp only[cond_true];by_cases hl:s.length<=60
 .have h2:decide ((s.length:Int)<=60)=true:=by simp;omega
  rw[h2];have hall:s.any (fun c=> !w7a c)= !(s.all w7a):=by simp[List.not_all_eq_any_not]
  rw[hall];cases hg:s.all w7a with
  | false=>simp[hl]
  | true=>
   simp only[Bool.not_true,Bool.false_eq_true,if_false,Option.elim,Option.bind_some,cond_true,ZTa,ZUa s [46] (by omega),kJa,if_pos hs];have hp:([46]:Str).isPrefixOf s=(s.head? ==some 46):=by
    cases s with
    | nil=>rfl
    | cons d r=>simp only[List.isPrefixOf,List.head?_cons,Bool.and_true];rw[Bool.eq_iff_iff];simp;exact ⟨fun h=>h.symm,fun h=>h.symm⟩
   have hsf:([46]:Str).isSuffixOf s=(s.getLast? ==some 46):=by
    rw[Bool.eq_iff_iff,List.isSuffixOf_iff_suffix,beq_iff_eq];constructor
    .rintro ⟨t,rfl⟩;simp
    intro h;obtain ⟨ys,rfl⟩:=List.getLast?_eq_some_iff.1 h;exact ⟨ys,rfl⟩
   have he:s.isEmpty=false:=by simpa using hn
   rw[hp,hsf,he];cases s.head? ==some 46 <;> cases s.getLast? ==some 46 <;> cases Lib.contains s [46,46] <;> simp[hl]
 have h2:decide ((s.length:Int)<=60)=false:=by simp;omega
 rw[h2];simp[hl]
theorem JDa(s:Str):Lib.index s [64]=if atP s < s.length then (atP s:Int) else -1:=by
 rw[Lib.index_one];unfold atP;induction s with
 | nil=>rfl
 | cons c r ih=>
  rw[Lib.indexByte,List.findIdx_cons];cases hc:(c==64) with
  | true=>simp
  | false=>
   simp only[Bool.false_eq_true,if_false,cond_false,List.length_cons];rw[ih];by_cases h:r.findIdx (· ==64) < r.length
   .simp only[if_pos h,if_pos (show r.findIdx (· ==64)+1 < r.length+1 by omega)];have:(((r.findIdx (· ==64):Nat):Int)== -1)=false:=by rw[beq_eq_false_iff_ne];omega
    rw[this];simp
   simp only[if_neg h,if_neg (show ¬(r.findIdx (· ==64)+1 < r.length+1) by omega)];simp
theorem cut_at(s:Str):Lib.cut s [64]=if atP s < s.length then (s.take (atP s),s.drop (atP s+1),true) else (s,[],false):=by
 unfold Lib.cut;rw[JDa];by_cases h:atP s < s.length
 .rw[if_pos h,if_pos h,if_pos (by omega)];simp
 rw[if_neg h,if_neg h,if_neg (by omega)]
def qGb(s:Str):Str × Str × Bool:=if atP s < s.length then (s.take (atP s),s.drop (atP s+1),vna s) else (s,[],false)
theorem w7b(c:UInt8):(Wqa c || decide (0<=Lib.indexByte [45,95,46,43,61] c))=Vxa c:=by
 unfold Vxa;by_cases h1:c=45
 .subst h1;decide
 by_cases h2:c=95
 .subst h2;decide
 by_cases h3:c=46
 .subst h3;decide
 by_cases h4:c=43
 .subst h4;decide
 by_cases h5:c=61
 .subst h5;decide
 rw[beq_eq_false_iff_ne.2 h1,beq_eq_false_iff_ne.2 h2,beq_eq_false_iff_ne.2 h3,beq_eq_false_iff_ne.2 h4,beq_eq_false_iff_ne.2 h5];simp[Lib.indexByte,Ne.symm h1,Ne.symm h2,Ne.symm h3,Ne.symm h4,Ne.symm h5]
theorem QTa(s:Str)(hs:s.length < 4294967281):vsa s=some (qGb s):=by
 have hloop:∀v:Str × Str × Bool,v.1.length < 4294967281->iter (qla v) 0=some ((zFa (fun _ c=>if !Vxa c then some () else none) 0 v.1).elim (.inl ()) .inr):=by
  intro v hv;refine zVa v.1 _ (Sum.inl ()) Sum.inr ?_ ?_
  .unfold qla;rw[zSa];rfl
  intro i c hc;have hi:=zXa hc;unfold qla;rw[kza hc,zMa hc];simp only[cond_true,Option.bind_some,Zpa,zUa];rw[show ((i:Int)+1)=((i+1:Nat):Int) by omega,j3a _ (by omega)];have hg:=w7b c;cases hl:Wqa c with
  | true=>rw[hl]at hg;simp only[Bool.true_or]at hg;rw[<-hg];rfl
  | false=>rw[hl]at hg;simp only[Bool.false_or]at hg;rw[<-hg];cases decide (0<=Lib.indexByte [45,95,46,43,61] c) <;> rfl
 unfold vsa qza;rw[if_pos hs,cut_at];simp only[Option.bind_some];unfold qGb;by_cases h:atP s < s.length
 .simp only[if_pos h,cond_true];rw[hloop _ (by simp;omega),jqa];have hall:(s.take (atP s)).any (fun c=> !Vxa c)= !((s.take (atP s)).all Vxa):=by simp[List.not_all_eq_any_not]
  simp only[hall];have hlen:(s.take (atP s)).length=atP s:=by simp;omega
  rw[hlen,Qaa _ (by simp;omega)];unfold vna;by_cases h0:atP s=0
  .simp[h0]
  have hne:(s.take (atP s) !=([]:Str))=true:=by
   simp only[bne_iff_ne,ne_eq];intro hx;have:=congrArg List.length hx;rw[hlen]at this;simp at this;omega
  rw[hne];by_cases h60:atP s<=60
  .have e:decide ((atP s:Int)<=60)=true:=by simp;omega
   rw[e];cases (s.take (atP s)).all Vxa <;> simp[h,h60] <;> omega
  have e:decide ((atP s:Int)<=60)=false:=by simp;omega
  rw[e];simp[h60]
 simp[if_neg h]
theorem kPb(s:Str):(qGb s).2.2=vna s:=by
 unfold qGb;by_cases h:atP s < s.length
 .rw[if_pos h]
 rw[if_neg h];unfold vna;simp[h]
theorem qDa(s:Str)(hs:s.length < 4294967281):kqa s=some (vna s):=by
 unfold kqa;rw[QTa s hs];simp[kPb]
theorem Vka(a b:List Str)(ha:a.length<=9223372036854775806):jja a b=some (a==b):=by
 unfold jja;by_cases hlen:a.length=b.length
 .have h1:((a.length:Int) !=(b.length:Int))=false:=by rw[hlen];simp
  rw[h1];simp only[cond_false];rw[zVa a (fun i x=>if b[i]? !=some x then some false else none) (.inl ()) .inr]
  .simp only[Option.bind_some];cases hf:zFa (fun i x=>if b[i]? !=some x then some false else none) 0 a with
   | none=>
    rw[wta]at hf;have:a=b:=by
     apply List.ext_getElem?;intro i;by_cases hi:i < a.length
     .have:=hf i a[i] (List.getElem?_eq_getElem hi);rw[Nat.zero_add]at this;rw[List.getElem?_eq_getElem hi];simp at this;exact this.symm
     rw[List.getElem?_eq_none (by omega),List.getElem?_eq_none (by omega)]
    subst this;simp
   | some r=>
    obtain ⟨i,x,hx,hq⟩:=jOa hf;rw[Nat.zero_add]at hq;split at hq
    .cases hq;rename_i hne;have:(a==b)=false:=by
      rw[beq_eq_false_iff_ne];rintro rfl;rw[hx]at hne;simp at hne
     rw[this];rfl
    cases hq
  .unfold yNa;rw[zSa];rfl
  intro i x hx;have hi:=zXa hx;unfold yNa;have hib:i < b.length:=by omega
  rw[kza hx,zMa hx,Vja hib,List.getElem?_eq_getElem hib];simp only[cond_true,Option.bind_some];rw[show ((i:Int)+1)=((i+1:Nat):Int) by omega,j3a _ (by omega)];by_cases hxb:x=b[i]
  .subst hxb;simp
  have e1:(x !=b[i])=true:=by simpa using hxb
  have e2:(some b[i] !=some x)=true:=by simp;exact fun h=>hxb h.symm
  rw[e1,e2];rfl
 have h1:((a.length:Int) !=(b.length:Int))=true:=by simp;omega
 rw[h1];simp only[cond_true];have:(a==b)=false:=by rw[beq_eq_false_iff_ne];rintro rfl;exact hlen rfl
 rw[this]
section
theorem zub{α:Type}(c:α->Bool)(l:List α):∀n:Nat,decide ((0:Int)<=(zFa (fun i x=>if c x then some ((i:Nat):Int) else none) n l).getD (-1))=l.any c:=by
 induction l with
 | nil=>intro n;rfl
 | cons x l ih=>
  intro n;unfold zFa;cases hc:c x with
  | true=>simp[hc]
  | false=>simp only[Bool.false_eq_true,if_false,List.any_cons,hc,Bool.false_or];exact ih (n+1)
theorem qHb(o:Option Int):Sum.elim (fun _=>some (-1)) (fun b=>some b) (o.elim (Sum.inl ()) Sum.inr:Unit ⊕ Int)=some (o.getD (-1)):=by cases o <;> rfl
theorem sc(i:Nat)(h:i < 9223372036854775807):w64 ((i:Int)+1)=((i+1:Nat):Int):=by rw[show ((i:Int)+1)=((i+1:Nat):Int) by omega,j3a _ (by omega)]
section
variable {α:Type}
end
theorem vFb{V:Type}(m:List (Str × V))(k:Str)(v:V)(x:Str):mget (mput m k v) x=if k==x then some v else mget m x:=by
 induction m with
 | nil=>rfl
 | cons p m ih=>
  obtain ⟨k',v'⟩:=p;unfold mput;by_cases h:k' =k
  .subst h;simp only[beq_self_eq_true,if_true,mget];cases k' ==x <;> simp
  have h1:(k' ==k)=false:=by simpa using h
  rw[h1];simp only[Bool.false_eq_true,if_false,mget];rw[ih];by_cases h2:k' =x
  .subst h2;have:(k==k')=false:=by simpa using fun h' =>h h'.symm
   simp[this]
  have:(k' ==x)=false:=by simpa using h2
  rw[this];simp
section
variable {α A S O:Type}
theorem JEa(l:List α)(enc:Int->S->A)(f:S->α->S)(out:S->O)(Inv:Nat->S->Prop){body:A->Option (Step A O)}
 (hl:∀s,Inv l.length s->body (enc l.length s)=some (.out (out s)))
 (hs:∀(i:Nat) x s,l[i]? =some x->Inv i s->body (enc i s)=some (.cont (enc ((i+1:Nat):Int) (f s x)))/\Inv (i+1) (f s x)):
 ∀(r p:List α) (s:S),l=p++r->Inv p.length s->iter body (enc (p.length:Int) s)=some (out (r.foldl f s)):=by
 intro r;induction r with
 | nil=>
  intro p s h hi;have:p=l:=by simp[h]
  subst this;exact zGa (hl s hi)
 | cons x r ih=>
  intro p s h hi;obtain ⟨h1,h2⟩:=hs p.length x s (by simp[h]) hi;rw[zQa h1];have:=ih (p++ [x]) (f s x) (by simp[h]) (by simpa using h2);simpa using this
end
end
theorem Kaa(o:Option Unit)(a b:Bool):Sum.elim (fun _=>some a) (fun _=>some b) (o.elim (Sum.inl ()) Sum.inr:Unit ⊕ Unit)=some (bif o.isSome then b else a):=by cases o <;> rfl
theorem jPa{α R:Type}(c:α->Bool)(r:R)(l:List α)(n:Nat):(zFa (fun _ x=>if c x then some r else none) n l).isSome=l.any c:=by
 rw[jqa];cases l.any c <;> rfl
theorem JFa{α:Type}(l:List α)(p:α->Bool):l.any (fun x=> !p x)= !l.all p:=by simp[List.not_all_eq_any_not]
theorem KFa(a b:Int):R_At a b=some ⟨a,b⟩:=rfl
theorem kpa(a b:Int):zwa a b=some ⟨a,b⟩:=rfl
theorem qaa:kAa=some ⟨0,0⟩:=rfl
theorem kga(f:zua):z5a f=some (f.Code !=0):=rfl
theorem YDa(o:Option zua)(f:zua):Sum.elim (fun _=>some f) (fun b=>some b) (o.elim (Sum.inl ()) Sum.inr:Unit ⊕ zua)=some (o.getD f):=by cases o <;> rfl
def kQb(c:UInt8):Bool:=Wqa c || c==45 || c==95 || c==46
def KGa(s:Str):Bool:=decide (1<=s.length) && decide (s.length<=60) && s.all kQb
theorem Wsa(s:Str)(hs:s.length<=1048576):ZGa s=some (KGa s):=by
 unfold ZGa;rw[zVa s (fun _ c=>if !kQb c then some false else none) (.inl ()) .inr,jqa,JFa]
 .simp only[Option.bind_some,vJa];unfold KGa;have e1:decide ((1:Int)<=(s.length:Int))=decide (1<=s.length):=by rw[Bool.eq_iff_iff];simp;omega
  have e2:decide ((s.length:Int)<=60)=decide (s.length<=60):=by rw[Bool.eq_iff_iff];simp;omega
  rw[<-e1,<-e2];cases s.all kQb <;> simp
 .unfold jFa;rw[zSa];rfl
 intro i c hc;have hi:=zXa hc;unfold jFa;rw[kza hc,zMa hc];simp only[cond_true,Option.bind_some,yVa,ZSa c 45 (by decide),ZSa c 95 (by decide),ZSa c 46 (by decide),sc i (by omega)];unfold kQb bne;cases Wqa c <;> cases (c==45) <;> cases (c==95) <;> cases (c==46) <;> rfl
theorem Qba(s:Str)(hs:s.length<=1048576):yka s=some (KGa s):=by
 have hloop:iter (vUa s) 0=some ((zFa (fun _ c=>if !kQb c then some () else none) 0 s).elim (.inl ()) .inr):=by
  refine zVa s _ (Sum.inl ()) Sum.inr ?_ ?_
  .unfold vUa;rw[zSa];rfl
  intro i c hc;have hi:=zXa hc;unfold vUa;rw[kza hc,zMa hc];simp only[cond_true,Option.bind_some,Zpa,qNa c 45 (by decide),qNa c 95 (by decide),qNa c 46 (by decide),sc i (by omega)];unfold kQb;cases Wqa c <;> cases (c==45) <;> cases (c==95) <;> cases (c==46) <;> rfl
 unfold yka KGa;rw[hloop];simp only[Option.bind_some,Kaa,jPa,JFa];by_cases hn:s=[]
 .subst hn;rfl
 have h1:(s !=([]:Str))=true:=by simpa using hn
 have h2:decide (1<=s.length)=true:=by have:=List.length_pos_iff.2 hn;simp;omega
 have e2:decide ((s.length:Int)<=60)=decide (s.length<=60):=by rw[Bool.eq_iff_iff];simp;omega
 rw[h1,h2,e2];cases decide (s.length<=60) <;> cases s.all kQb <;> rfl
def qEa(n:Int):Bool:=decide (0<=n) && decide (n<=7)
def recQ(l:List zca)(i:Nat)(r:zca):Option zua:=
 if !vna r.Address then some ⟨10,i⟩ else if !qEa r.Notify then some ⟨3,i⟩ else if (l.take i).any (fun x=>x.Address==r.Address) then some ⟨7,i⟩ else none
def recF(l:List zca):zua:=(zFa (recQ l) 0 l).getD ⟨0,0⟩
def qIb(l:List zca):Prop:=l.length<=1048576/\∀a∈l,a.Address.length<=1048576
theorem vGb(l:List zca)(s:Str)(hl:l.length<=1048576):kLb l s=some ((zFa (fun i x=>if x.Address==s then some ((i:Nat):Int) else none) 0 l).getD (-1)):=by
 unfold kLb;rw[zVa l (fun i x=>if x.Address==s then some ((i:Nat):Int) else none) (.inl ()) .inr]
 .simp only[Option.bind_some,qHb]
 .unfold QOa;rw[zSa];rfl
 intro i x hx;have hi:=zXa hx;unfold QOa;rw[kza hx,zMa hx];simp only[cond_true,Option.bind_some,sc i (by omega)];cases x.Address==s <;> rfl
theorem v4a(n:Int):kYa n=some (qEa n):=by unfold kYa qEa;cases decide (0<=n) <;> rfl
theorem any_take(l:List zca)(i:Nat)(s:Str)(hl:l.length<=1048576):decide ((0:Int)<=(zFa (fun i x=>if x.Address==s then some ((i:Nat):Int) else none) 0 (l.take i)).getD (-1))=(l.take i).any (fun x=>x.Address==s):=zub (fun x=>x.Address==s) (l.take i) 0
theorem j4a(l:List zca)(h:qIb l):kDa l=some (recF l):=by
 obtain ⟨h3,h4⟩:=h;unfold kDa recF;rw[zVa l (recQ l) (.inl ()) .inr]
 .simp only[Option.bind_some,qaa,YDa]
 .unfold k3a;rw[zSa];rfl
 intro i r hr;have hi:=zXa hr;have ha:=h4 r (List.mem_of_getElem? hr);have hl2:iter (kwa r (l.take i)) 0=some ((zFa (fun i x=>if x.Address==r.Address then some ((i:Nat):Int) else none) 0 (l.take i)).elim (.inl ()) .inr):=by
  refine zVa (l.take i) _ (Sum.inl ()) Sum.inr ?_ ?_
  .unfold kwa;rw[zSa];rfl
  intro k x hx;have hk:=zXa hx;simp at hk;unfold kwa;rw[kza hx,zMa hx];simp only[cond_true,Option.bind_some,sc k (by omega)];cases x.Address==r.Address <;> rfl
 unfold k3a recQ;rw[kza hr,zMa hr];simp only[cond_true,Option.bind_some,qDa _ (show r.Address.length < 4294967281 by omega),kpa,v4a,jZa (Nat.le_of_lt hi),hl2,qHb,any_take _ _ _ h3,sc i (by omega)];cases vna r.Address <;> cases qEa r.Notify <;> cases (l.take i).any (fun x=>x.Address==r.Address) <;> rfl
theorem JGa(s:Str)(i:Nat)(h:i < s.length):(strB s)[i]'(by rw[zIa];exact h)=s[i]:=rfl
theorem w8b(s:Str)(i:Nat)(h:i < s.length):(strB s).get! i=s[i]:=by
 have:=get_at (strB s) i (by rw[zIa];exact h);rw[Nat.add_zero]at this;rw[this];rfl
theorem YEa{s:Str}{i:Nat}{c:UInt8}(h:s[i]? =some c)(hc:c.toNat < 128):Z8a s i=(c.toNat:Int)/\jha s i=1:=by
 have hi:=zXa h;have e:s[i]=c:=by rw[List.getElem?_eq_getElem hi]at h;exact Option.some.inj h
 have hd:=decode_ascii (strB s) i (by rw[zIa];exact hi) (by rw[JGa s i hi,e];exact hc);unfold Z8a jha;rw[hd,JGa s i hi,e];exact ⟨rfl,rfl⟩
theorem w9b{s:Str}{i:Nat}{c:UInt8}(h:s[i]? =some c)(hc:128<=c.toNat):128<=Z8a s i/\Z8a s i<=2147483647/\1<=jha s i:=by
 have hi:=zXa h;have e:s[i]=c:=by rw[List.getElem?_eq_getElem hi]at h;exact Option.some.inj h
 have hd:=decode_high (strB s) i (by rw[zIa];exact hi) (by rw[JGa s i hi,e];exact hc);have hl:=decode_le (strB s) i;unfold Z8a jha;exact ⟨by omega,by omega,hd.2⟩
theorem kRb(s:ByteArray)(pos:Nat):∀k,1<=k->k < (Utf8.decode s pos).2->(s.get! (pos+k)).toNat / 64=2:=by
 intro k h1 h2;simp only[Utf8.decode]at h2;repeat' split at h2
 all_goals first
  | (exfalso;simp at h2;omega)
  | (
   rename_i hq _;simp only[Bool.and_eq_true,decide_eq_true_eq,beq_iff_eq]at hq;have h2:k < 2:=h2;obtain rfl:k=1:=by omega
   exact hq.2.2)
  | (
   rename_i hq _;simp only[Bool.and_eq_true,decide_eq_true_eq,beq_iff_eq]at hq;have h2:k < 3:=h2;have:k=1∨k=2:=by omega
   rcases this with rfl | rfl
   .exact hq.1.2.2
   exact hq.2.2)
  | (
   rename_i hq _;simp only[Bool.and_eq_true,decide_eq_true_eq,beq_iff_eq]at hq;have h2:k < 4:=h2;have:k=1∨k=2∨k=3:=by omega
   rcases this with rfl | rfl | rfl
   .exact hq.1.1.2.2
   .exact hq.1.2.2
   exact hq.2.2)
theorem yab{s:Str}{i j:Nat}{c d:UInt8}(h:s[i]? =some c)(hc:128<=c.toNat)(h1:i<=j)(h2:j < i+jha s i)(hj:s[j]? =some d):128<=d.toNat:=by
 by_cases e:j=i
 .subst e;rw[h]at hj;cases hj;exact hc
 have hjl:=zXa hj;have e2:s[j]=d:=by rw[List.getElem?_eq_getElem hjl]at hj;exact Option.some.inj hj
 have:=kRb (strB s) i (j - i) (by omega) (by unfold jha at h2;omega);rw[show i+(j - i)=j by omega,w8b s j hjl,e2]at this;omega
theorem toU8_nat(c:UInt8):toU8 (c.toNat:Int)=c:=by
 unfold toU8;have:=c.toNat_lt;rw[show ((c.toNat:Int) % 256).toNat=c.toNat by omega];simp
theorem YFa{t:Str}(h:YBa t=true){c:UInt8}(hc:c∈t):c.toNat < 128:=by
 unfold YBa at h;rw[List.all_eq_true]at h;simpa using h c hc
theorem vHb{r:Int}(h:128<=r):∃m x,1<=m/\m<=3/\(wJa r).length=m+1/\(wJa r)[m]? =some x/\128<=x.toNat:=by
 unfold wJa;simp only[Utf8.encode];have hc:128<=(if Utf8.valid r=true then r.toNat else Utf8.runeError):=by
  split
  .omega
  decide
 generalize (if Utf8.valid r=true then r.toNat else Utf8.runeError)=c at hc;have hb:∀n:Nat,128<=(UInt8.ofNat (128+n % 64)).toNat:=by
  intro n;rw[UInt8.toNat_ofNat'];have:(128+n % 64) % 2 ^ 8=128+n % 64:=Nat.mod_eq_of_lt (by omega);rw[this];omega
 rw[if_neg (by omega)];split
 .exact ⟨1,_,by omega,by omega,rfl,rfl,hb c⟩
 split
 .exact ⟨2,_,by omega,by omega,rfl,rfl,hb c⟩
 exact ⟨3,_,by omega,by omega,rfl,rfl,hb c⟩
theorem Yfa{t:Str}(h:∀c∈t,c.toNat < 128){x:UInt8}(hx:128<=x.toNat):Lib.indexByte t x= -1:=by
 have hc:=Lib.contains_iff_indexByte t x;have hn:t.contains x=false:=by
  rw[Bool.eq_false_iff];intro hm;have:=h x (by simpa using hm);omega
 rw[hn]at hc;have hge:=Lib.indexByte_ge t x;have:=of_decide_eq_false hc.symm;omega
theorem Wta(t:Str)(c:UInt8)(hc:c.toNat < 128):kka t (c.toNat:Int)=some (Lib.indexByte t c):=by
 unfold kka;have h1:decide ((0:Int)<=(c.toNat:Int))=true:=by simp
 have h2:decide ((c.toNat:Int) < 128)=true:=by simp;omega
 rw[h1,h2];simp only[cond_true,Option.bind_some,toU8_nat];rfl
theorem Yga(t:Str)(r:Int)(hr:128<=r)(ht:∀c∈t,c.toNat < 128)(hl:t.length<=4294967281):kka t r=some (-1):=by
 unfold kka;have h1:decide ((0:Int)<=r)=true:=by simp;omega
 have h2:decide (r < 128)=false:=by simp;omega
 rw[h1,h2];simp only[cond_true,cond_false,Option.bind_some];cases hq:r==65533 with
 | true=>
  simp only[cond_true];obtain ⟨o,ho,rfl⟩:=VUa (body:=qea t) (fun i=>i<=t.length) (fun i=>t.length - i) (fun _ o=>o=.inl ()) (fun i hi=>by
   unfold qea;by_cases hlt:i < t.length
   .right;have hg:t[i]? =some t[i]:=List.getElem?_eq_getElem hlt;have hc:=ht t[i] (List.getElem_mem hlt);obtain ⟨e1,e2⟩:=YEa hg hc;rw[e1,e2,decide_eq_true hlt];have hne:((t[i].toNat:Int)==65533)=false:=by rw[beq_eq_false_iff_ne];omega
    rw[hne];exact ⟨i+1,rfl,by omega,by omega,fun _ h=>h⟩
   left;rw[decide_eq_false hlt];exact ⟨.inl (),rfl,rfl⟩) 0 (Nat.zero_le _)
  rw[ho];rfl
 | false=>
  simp only[cond_false];have hv:∃b,kva r=some b:=by
   unfold kva;cases decide (0<=r) <;> cases decide (r < 55296) <;> cases decide (57343 < r) <;> cases decide (r<=1114111) <;> exact ⟨_,rfl⟩
  obtain ⟨b,hb⟩:=hv;rw[hb];simp only[Option.bind_some];cases b with
  | false=>rfl
  | true=>
   simp only[Bool.not_true,cond_false];obtain ⟨m,x,hm1,hm3,hlen,hx,hx128⟩:=vHb hr;have hst:w64 (((wJa r).length:Int) - 1)=(m:Int):=by rw[hlen,qGa (by omega) (by omega)];omega
   rw[hst];have hbody:∃o,qga t r (m:Int)=some (.out o)/\(o=.inl ()∨o=.inr (-1)):=by
    unfold qga;by_cases hlt:m < t.length
    .have hd:decide ((m:Int) < (t.length:Int))=true:=by simp;omega
     have hc:=ht t[m] (List.getElem_mem hlt);rw[hd,hst,Vja hlt,zMa hx];have hne:((t[m].toNat:Int) !=(x.toNat:Int))=true:=by simp;omega
     simp only[cond_true,Option.bind_some,hne];rw[show (m:Int)+1=((m+1:Nat):Int) by omega,j3a _ (by omega),ySa (by omega)];simp only[Option.bind_some];have hib:zUa (t.drop (m+1)) x=some (-1):=by
      show some (Lib.indexByte (t.drop (m+1)) x)=_;rw[Yfa (fun c hc=>ht c (List.mem_of_mem_drop hc)) hx128]
     rw[hib];exact ⟨.inr (-1),rfl,.inr rfl⟩
    have hd:decide ((m:Int) < (t.length:Int))=false:=by simp;omega
    rw[hd];exact ⟨.inl (),rfl,.inl rfl⟩
   obtain ⟨o,ho,ho2⟩:=hbody;rw[zGa ho];rcases ho2 with rfl | rfl <;> rfl
theorem zvb(s t:Str)(h8:s.length<=8)(h2:2<=t.length)(hl:t.length < 4294967281)(ht:YBa t=true):vha s t=some (Lib.indexAny s t):=by
 have htc:∀c∈t,c.toNat < 128:=fun c hc=>YFa ht hc
 unfold vha;have e1:(t==([]:Str))=false:=by rw[beq_eq_false_iff_ne];rintro rfl;simp at h2
 have e2:((t.length:Int)==1)=false:=by rw[beq_eq_false_iff_ne];omega
 have e3:zLa (s.length:Int)=some false:=by unfold zLa;simp;omega
 rw[e1,e2,e3];simp only[cond_false,Option.bind_some];obtain ⟨o,ho,ho2⟩:=VUa (body:=qha s t) (fun i=>Lib.NoAny s t i) (fun i=>s.length - i) (fun _ o=>Sum.elim (fun _=>some (-1)) (fun b=>some b) o=some (Lib.indexAny s t)) (fun i hi=>by
  unfold qha;by_cases hlt:i < s.length
  .have hg:s[i]? =some s[i]:=List.getElem?_eq_getElem hlt;rw[decide_eq_true hlt];simp only[cond_true];by_cases hc:s[i].toNat < 128
   .obtain ⟨q1,q2⟩:=YEa hg hc;rw[q1,q2,Wta t _ hc];simp only[Option.bind_some];have hcon:=Lib.contains_iff_indexByte t s[i];rw[<-hcon];cases hin:t.contains s[i] with
    | true=>
     left;exact ⟨.inr (i:Int),rfl,by rw[Lib.indexAny_hit hi hg hin];rfl⟩
    | false=>
     right;exact ⟨i+1,rfl,hi.succ hg hin,by omega,fun _ h=>h⟩
   have hc:128<=s[i].toNat:=by omega
   obtain ⟨q1,q2,q3⟩:=w9b hg hc;rw[Yga t _ q1 htc (by omega)];right;refine ⟨i+jha s i,rfl,fun j b hj hb=>?_,by omega,fun _ h=>h⟩;by_cases hji:j < i
   .exact hi j b hji hb
   have:=yab hg hc (by omega) hj hb;rw[Bool.eq_false_iff];intro hm;have:=htc b (by simpa using hm);omega
  left;rw[decide_eq_false hlt];refine ⟨.inl (),rfl,?_⟩;have hn:Lib.NoAny s t s.length:=fun j b hj hb=>hi j b (by omega) hb
  rw[Lib.indexAny_none hn];rfl) 0 (Lib.NoAny.zero s t)
 rw[ho];exact ho2
theorem zwb(t:Str):∀s:Str,decide (0<=Lib.indexAny s t)=s.any fun c=>t.contains c:=by
 intro s;induction s with
 | nil=>rfl
 | cons c s ih=>
  have hge:=Lib.indexAny_ge t s;rw[List.any_cons,<-ih,Lib.indexAny];cases t.contains c with
  | true=>simp
  | false=>
   simp only[Bool.false_eq_true,if_false,Bool.false_or];by_cases h:Lib.indexAny s t= -1
   .simp[h]
   have:(Lib.indexAny s t== -1)=false:=by simpa using h
   rw[this];simp only[Bool.false_eq_true,if_false];rw[Bool.eq_iff_iff];simp;omega
theorem j5a(s t:Str)(hs:s.length<=1048576)(h2:2<=t.length)(hl:t.length<=1048576)(ht:YBa t=true):kja s t=some (s.any fun c=>t.contains c):=by
 unfold kja k5a;rw[if_pos ⟨by omega,by omega,h2,ht⟩];simp only[Option.bind_some,zwb]
def zPa(c:UInt8):Bool:=c==32 || c==9
theorem yla(c:UInt8):vqa c=some (zPa c):=by
 unfold vqa zPa;rw[qNa c 32 (by decide),qNa c 9 (by decide)];cases c==32 <;> rfl
theorem y6a(c:UInt8):qBa c=some (zPa c):=by
 unfold qBa zPa;rw[qNa c 32 (by decide),qNa c 9 (by decide)];cases c==32 <;> rfl
def fnC(c:UInt8):Bool:=decide (33<=c) && decide (c<=126) && c !=58
def fnP(s:Str):Bool:=s !=([]:Str) && decide (s.length<=60) && s.all fnC
theorem dec60(s:Str):decide ((s.length:Int)<=60)=decide (s.length<=60):=by generalize s.length=n;rw[Bool.eq_iff_iff];simp;omega
theorem zxb(s:Str)(hs:s.length<=1048576):Zja s=some (fnP s):=by
 have hloop:iter (wLa s) 0=some ((zFa (fun _ c=>if !fnC c then some () else none) 0 s).elim (.inl ()) .inr):=by
  refine zVa s _ (Sum.inl ()) Sum.inr ?_ ?_
  .unfold wLa;rw[zSa];rfl
  intro i c hc;have hi:=zXa hc;unfold wLa;rw[kza hc,zMa hc];simp only[cond_true,Option.bind_some,ZSa c 58 (by decide),yTa 33 c (by decide),yUa 126 c (by decide),sc i (by omega)];unfold fnC;cases decide ((33:UInt8)<=c) <;> cases decide (c<=126) <;> cases c !=58 <;> rfl
 unfold Zja fnP;rw[hloop];simp only[Option.bind_some,Kaa,jPa,JFa,dec60];cases s !=([]:Str) <;> cases decide (s.length<=60) <;> cases s.all fnC <;> rfl
def endC(c:UInt8):Bool:=c==13 || c==10 || c==0
theorem zyb(s:Str)(hs:s.length<=1048576):Zka s=some (s.any endC):=by
 unfold Zka;rw[j5a s _ hs (by decide) (by decide) (by decide)];simp only[Option.bind_some,Option.some.injEq]
 congr 1
 funext c;rw[Bool.eq_iff_iff];simp[endC,or_assoc]
def ybb(s:Str):Bool:=match s.head?,s.getLast? with | some a,some b=>zPa a || zPa b | _,_=>false
def valP(s:Str):Bool:= !(s.any endC) && !(ybb s)
theorem qJb(s:Str)(h:s≠ [])(hs:s.length<=1048576):∃a b,idx s 0=some a/\idx s (w64 ((s.length:Int) - 1))=some b/\s.head? =some a/\s.getLast? =some b:=by
 have hpos:=List.length_pos_iff.2 h;obtain ⟨a,r,rfl⟩:=List.exists_cons_of_ne_nil h;have e:w64 (((a::r).length:Int) - 1)=((r.length:Nat):Int):=by
  have hl:(a::r).length=r.length+1:=rfl;rw[qGa (by omega) (by omega)];omega
 refine ⟨a,(a::r).getLast h,rfl,?_,rfl,List.getLast?_eq_some_getLast h⟩;rw[e,wsa,List.getLast_eq_getElem h,List.getElem?_eq_getElem (by simp)]
 congr 2
theorem JHa(s:Str)(hs:s.length<=1048576):jka s=some (valP s):=by
 unfold jka valP;rw[zyb s hs];simp only[Option.bind_some];by_cases hn:s=[]
 .subst hn;rfl
 obtain ⟨a,b,h1,h2,h3,h4⟩:=qJb s hn hs;have e:(s==([]:Str))=false:=by simpa using hn
 unfold ybb;rw[h1,h2,h3,h4,e];simp only[Option.bind_some,y6a,cond_false];cases s.any endC <;> cases zPa a <;> cases zPa b <;> rfl
def br(t:Str)(f i:Nat):Bool:=decide (1<=i) && decide (f<=i) && (match t[i]?,t[i - 1]? with | some a,some b=>zPa a && !zPa b | _,_=>false)
def QUa(t:Str)(f:Nat):Nat->Nat
 | 0=>0
 | i+1=>if br t f (i+1) then i+1 else QUa t f i
def JIa(t:Str)(f:Nat):Nat->Nat->Nat
 | 0,_=>0
 | n+1,i=>if br t f i then i else JIa t f n (i+1)
def cutP(t:Str)(f:Nat):Nat:=if QUa t f 78=0 then JIa t f (t.length - 79) 79 else QUa t f 78
def kSb(t:Str)(f c:Nat):Prop:=(c=0/\∀j,br t f j=false)∨(br t f c=true/\((c<=78/\∀j,c < j->j<=78->br t f j=false)∨(78 < c/\∀j,j < c->br t f j=false)))
theorem ycb(t:Str)(f:Nat):br t f 0=false:=rfl
theorem kTb{t:Str}{f i:Nat}(h:br t f i=true):i < t.length/\1<=i/\f<=i:=by
 unfold br at h;simp only[Bool.and_eq_true,decide_eq_true_eq]at h;obtain ⟨⟨h1,h2⟩,h3⟩:=h;refine ⟨?_,h1,h2⟩;cases hi:t[i]? with
 | none=>rw[hi]at h3;simp at h3
 | some a=>exact zXa hi
theorem zzb{t:Str}{f c d:Nat}(h:kSb t f c)(k:kSb t f d):c=d:=by
 rcases h with ⟨rfl,h⟩ | ⟨hc,h⟩ <;> rcases k with ⟨rfl,k⟩ | ⟨hd,k⟩
 .rfl
 .rw[h]at hd;cases hd
 .rw[k]at hc;cases hc
 rcases Nat.lt_trichotomy c d with hlt | heq | hgt
 .exfalso;rcases h with ⟨h1,h2⟩ | ⟨h1,h2⟩ <;> rcases k with ⟨k1,k2⟩ | ⟨k1,k2⟩
  .rw[h2 d hlt k1]at hd;cases hd
  .rw[k2 c hlt]at hc;cases hc
  .omega
  rw[k2 c hlt]at hc;cases hc
 .exact heq
 exfalso;rcases h with ⟨h1,h2⟩ | ⟨h1,h2⟩ <;> rcases k with ⟨k1,k2⟩ | ⟨k1,k2⟩
 .rw[k2 c hgt h1]at hc;cases hc
 .omega
 .rw[h2 d hgt]at hd;cases hd
 rw[h2 d hgt]at hd;cases hd
theorem vIb(t:Str)(f:Nat):∀n,(QUa t f n=0/\∀j,j<=n->br t f j=false)∨(br t f (QUa t f n)=true/\QUa t f n<=n/\∀j,QUa t f n < j->j<=n->br t f j=false):=by
 intro n;induction n with
 | zero=>left;exact ⟨rfl,fun j hj=>by
  obtain rfl:j=0:=by omega
  exact ycb t f⟩
 | succ n ih=>
  unfold QUa;by_cases h:br t f (n+1)=true
  .rw[if_pos h];right;exact ⟨h,Nat.le_refl _,fun j h1 h2=>by omega⟩
  rw[if_neg h];rcases ih with ⟨h1,h2⟩ | ⟨h1,h2,h3⟩
  .left;refine ⟨h1,fun j hj=>?_⟩;by_cases e:j=n+1
   .subst e;simpa using h
   exact h2 j (by omega)
  right;refine ⟨h1,by omega,fun j hj hjn=>?_⟩;by_cases e:j=n+1
  .subst e;simpa using h
  exact h3 j hj (by omega)
theorem vJb(t:Str)(f:Nat):∀n i,(JIa t f n i=0/\∀j,i<=j->j < i+n->br t f j=false)∨(br t f (JIa t f n i)=true/\i<=JIa t f n i/\∀j,i<=j->j < JIa t f n i->br t f j=false):=by
 intro n;induction n with
 | zero=>intro i;left;exact ⟨rfl,fun j h1 h2=>by omega⟩
 | succ n ih=>
  intro i;unfold JIa;by_cases h:br t f i=true
  .rw[if_pos h];right;exact ⟨h,Nat.le_refl _,fun j h1 h2=>by omega⟩
  rw[if_neg h];have hb:br t f i=false:=by simpa using h
  rcases ih (i+1) with ⟨h1,h2⟩ | ⟨h1,h2,h3⟩
  .left;refine ⟨h1,fun j hj hjn=>?_⟩;by_cases e:j=i
   .subst e;exact hb
   exact h2 j (by omega) (by omega)
  right;refine ⟨h1,by omega,fun j hj hjn=>?_⟩;by_cases e:j=i
  .subst e;exact hb
  exact h3 j (by omega) hjn
theorem ydb(t:Str)(f:Nat):kSb t f (cutP t f):=by
 unfold cutP;rcases vIb t f 78 with ⟨h1,h2⟩ | ⟨h1,h2,h3⟩
 .rw[if_pos h1];rcases vJb t f (t.length - 79) 79 with ⟨k1,k2⟩ | ⟨k1,k2,k3⟩
  .left;refine ⟨k1,fun j=>?_⟩;by_cases hj:j<=78
   .exact h2 j hj
   cases hb:br t f j with
   | false=>rfl
   | true=>have:=(kTb hb).1;rw[k2 j (by omega) (by omega)]at hb;cases hb
  right;refine ⟨k1,.inr ⟨by omega,fun j hj=>?_⟩⟩;by_cases hj2:j<=78
  .exact h2 j hj2
  exact k3 j (by omega) hj
 have hne:QUa t f 78≠0:=by intro h;rw[h,ycb]at h1;cases h1
 rw[if_neg hne];exact .inr ⟨h1,.inl ⟨h2,h3⟩⟩
theorem ZJa{t:Str}{f:Nat}(h:cutP t f≠0):1<=cutP t f/\cutP t f < t.length:=by
 rcases ydb t f with ⟨h1,_⟩ | ⟨h1,_⟩
 .exact absurd h1 h
 exact ⟨(kTb h1).2.1,(kTb h1).1⟩
theorem br_at{t:Str}{f i:Nat}(h1:1<=i)(hi:i < t.length):br t f i=(decide (f<=i) && (zPa t[i] && !zPa (t[i - 1]'(by omega)))):=by
 unfold br;rw[List.getElem?_eq_getElem hi,List.getElem?_eq_getElem (show i - 1 < t.length by omega)];simp[h1]
def PInv(t:Str)(f b i:Nat):Prop:=f<=i/\1<=i/\((b=0/\∀j,j < i->br t f j=false)∨(br t f b=true/\b < i/\((b<=78/\∀j,b < j->j < i->br t f j=false)∨(78 < b/\∀j,j < b->br t f j=false))))
theorem PInv.done{t:Str}{f b i:Nat}(h:PInv t f b i)(hi:0 < b/\78 < i∨t.length<=i):kSb t f b:=by
 obtain ⟨hf,h1,h2⟩:=h;rcases h2 with ⟨rfl,h3⟩ | ⟨h3,h4,h5⟩
 .left;refine ⟨rfl,fun j=>?_⟩;cases hb:br t f j with
  | false=>rfl
  | true=>
   have:=(kTb hb).1;rw[h3 j (by omega)]at hb;cases hb
 right;refine ⟨h3,?_⟩;rcases h5 with ⟨h6,h7⟩ | h6
 .left;refine ⟨h6,fun j hj hj2=>?_⟩;cases hb:br t f j with
  | false=>rfl
  | true=>
   have:=(kTb hb).1;rw[h7 j hj (by omega)]at hb;cases hb
 exact .inr h6
theorem JJa(t:Str)(f:Nat)(ht:t.length<=4194304)(hf:f<=4194304):jla t (f:Int)=some ((cutP t (max f 1):Nat):Int):=by
 unfold jla;have hstart:max (f:Int) 1=((max f 1:Nat):Int):=by omega
 rw[hstart];obtain ⟨r,h1,b,rfl,h2⟩:=VUa (body:=yca t) (fun s=>∃b i:Nat,s=((b:Int),(i:Int))/\PInv t (max f 1) b i/\i<=4194305) (fun s=>(4194306 - s.2).toNat) (fun _ r=>∃c:Nat,r=(c:Int)/\kSb t (max f 1) c) (by
  rintro _ ⟨b,i,rfl,hI,hil⟩;have hi1:=hI.2.1;unfold yca;dsimp only;by_cases hlt:i < t.length
  .have hd:decide ((i:Int) < (t.length:Int))=true:=by simp;omega
   have hpre:w64 ((i:Int) - 1)=((i - 1:Nat):Int):=by rw[qGa (by omega) (by omega)];omega
   rw[hd,Vja hlt,hpre,Vja (show i - 1 < t.length by omega)];have hb:=br_at (f:=max f 1) hi1 hlt;have hfi:decide (max f 1<=i)=true:=by simp only[decide_eq_true_eq];exact hI.1
   rw[hfi,Bool.true_and]at hb;simp only[cond_true,Option.bind_some,y6a];have next:∀b' :Nat,PInv t (max f 1) b' (i+1)->qCa ((b:Int),(i:Int)) (b' :Int)=some (.cont ((b' :Int),((i+1:Nat):Int))):=by
    intro b' _;unfold qCa;dsimp only;rw[sc i (by omega)]
   have hno:br t (max f 1) i=false->PInv t (max f 1) b (i+1):=by
    intro hnb;refine ⟨by have:=hI.1;omega,by omega,?_⟩;rcases hI.2.2 with ⟨q1,q2⟩ | ⟨q1,q2,q3⟩
    .left;refine ⟨q1,fun j hj=>?_⟩;by_cases e:j=i
     .subst e;exact hnb
     exact q2 j (by omega)
    right;refine ⟨q1,by omega,?_⟩;rcases q3 with ⟨q4,q5⟩ | q4
    .left;refine ⟨q4,fun j hj hj2=>?_⟩;by_cases e:j=i
     .subst e;exact hnb
     exact q5 j hj (by omega)
    exact .inr q4
   have goNo:br t (max f 1) i=false->(∃s',qCa ((b:Int),(i:Int)) (b:Int)=some (.cont s')/\(∃b i:Nat,s' =((b:Int),(i:Int))/\PInv t (max f 1) b i/\i<=4194305)/\(4194306 - s'.2).toNat < (4194306 - ((i:Int))).toNat/\∀r:Int,(∃c:Nat,r=(c:Int)/\kSb t (max f 1) c)->∃c:Nat,r=(c:Int)/\kSb t (max f 1) c):=by
    intro hnb;exact ⟨_,next b (hno hnb),⟨b,i+1,rfl,hno hnb,by omega⟩,by dsimp only;omega,fun _ h=>h⟩
   cases ha:zPa t[i] with
   | false=>
    rw[ha]at hb;simp only[Bool.not_false,cond_true,Option.bind_some];exact .inr (goNo hb)
   | true=>
    rw[ha]at hb;simp only[Bool.not_true,cond_false,Option.bind_some];cases hp:zPa t[i - 1] with
    | true=>
     rw[hp]at hb;simp only[cond_true];exact .inr (goNo hb)
    | false=>
     rw[hp]at hb;have hb:br t (max f 1) i=true:=hb;simp only[cond_false];by_cases hb0:0 < b/\78 < i
     .left;have e1:decide ((0:Int) < (b:Int))=true:=by simp;omega
      have e2:decide ((78:Int) < (i:Int))=true:=by simp;omega
      rw[e1,e2];exact ⟨(b:Int),rfl,b,rfl,hI.done (.inl hb0)⟩
     right;have e:(bif decide ((0:Int) < (b:Int)) then some (decide ((78:Int) < (i:Int))) else some false)=some false:=by
      by_cases h0:0 < b
      .have e1:decide ((0:Int) < (b:Int))=true:=by simp;omega
       have e2:decide ((78:Int) < (i:Int))=false:=by simp;omega
       rw[e1,e2];rfl
      have e1:decide ((0:Int) < (b:Int))=false:=by simp;omega
      rw[e1];rfl
     rw[e];simp only[Option.bind_some,cond_false];have hnew:PInv t (max f 1) i (i+1):=by
      refine ⟨by have:=hI.1;omega,by omega,.inr ⟨hb,by omega,?_⟩⟩;by_cases h78:i<=78
      .exact .inl ⟨h78,fun j h1 h2=>by omega⟩
      right;refine ⟨by omega,?_⟩;rcases hI.2.2 with ⟨q1,q2⟩ | ⟨q1,q2,q3⟩
      .exact q2
      exfalso;have:=(kTb q1).2.1;omega
     exact ⟨_,next i hnew,⟨i,i+1,rfl,hnew,by omega⟩,by dsimp only;omega,fun _ h=>h⟩
  left;have hd:decide ((i:Int) < (t.length:Int))=false:=by simp;omega
  rw[hd];exact ⟨(b:Int),rfl,b,rfl,hI.done (.inr (by omega))⟩) ((0:Int),((max f 1:Nat):Int)) ⟨0,max f 1,rfl,⟨Nat.le_refl _,by omega,.inl ⟨rfl,fun j hj=>by
  cases hb:br t (max f 1) j with
  | false=>rfl
  | true=>have:=(kTb hb).2.2;omega⟩⟩,by omega⟩
 rw[h1];simp only[Option.bind_some];rw[zzb h2 (ydb t (max f 1))]
theorem R_cut_eq(t:Str)(f:Nat)(out:List Str)(ht:t.length<=4194304)(h78:78 < t.length)(hf:f<=4194304)(h1f:1<=f):((iter (kZa (t,(f:Int),out)) (0,78)).bind fun b10=>iter (kHa (t,(f:Int),out)) (b10,79))=some ((cutP t f:Nat):Int):=by
 have test:∀i:Nat,1<=i->i < t.length->((bif decide ((f:Int)<=(i:Int)) then (idx t (i:Int)).bind fun v18=>(vqa v18).bind fun v20=>(bif v20 then (idx t ((w64 ((i:Int) - 1)))).bind fun v23=>(vqa v23).bind fun v25=>some ((!v25)) else some false) else some false):Option Bool)=some (br t f i):=by
  intro i h1 h2;have hpre:w64 ((i:Int) - 1)=((i - 1:Nat):Int):=by rw[qGa (by omega) (by omega)];omega
  rw[br_at h1 h2,Vja h2,hpre,Vja (show i - 1 < t.length by omega)];have e:decide ((f:Int)<=(i:Int))=decide (f<=i):=by rw[Bool.eq_iff_iff];simp
  rw[e];simp only[Option.bind_some,yla];cases decide (f<=i) <;> cases zPa t[i] <;> rfl
 have hdn:∀i:Nat,i<=78->iter (kZa (t,(f:Int),out)) (0,(i:Int))=some ((QUa t f i:Nat):Int):=by
  intro i;induction i with
  | zero=>intro _;exact zGa (by unfold kZa;rfl)
  | succ i ih=>
   intro hi;have hb:kZa (t,(f:Int),out) (0,((i+1:Nat):Int))=some (.cont ((bif br t f (i+1) then ((i+1:Nat):Int) else 0),(i:Int))):=by
    unfold kZa;dsimp only;have e1:decide ((0:Int) < ((i+1:Nat):Int))=true:=by rw[decide_eq_true_eq];omega
    have e2:w64 (((i+1:Nat):Int) - 1)=(i:Int):=by rw[qGa (by omega) (by omega)];omega
    rw[test (i+1) (by omega) (by omega),e1,e2];simp only[beq_self_eq_true,cond_true,Option.bind_some];cases br t f (i+1) <;> rfl
   rw[zQa hb];unfold QUa;cases hq:br t f (i+1) with
   | false=>simpa using ih (by omega)
   | true=>
    simp only[cond_true,if_true];refine zGa ?_;unfold kZa;dsimp only;have e3:((((i+1:Nat):Int))==0)=false:=by rw[beq_eq_false_iff_ne];omega
    rw[e3];cases decide ((0:Int) < (i:Int)) <;> rfl
 have h1:=hdn 78 (by omega);have e78:((78:Nat):Int)=78:=rfl;rw[e78]at h1;rw[h1];simp only[Option.bind_some];have hout:∀(c i:Nat),c≠0->iter (kHa (t,(f:Int),out)) ((c:Int),(i:Int))=some ((c:Nat):Int):=by
  intro c i hc;refine zGa ?_;unfold kHa;dsimp only;have e3:((c:Int)==0)=false:=by rw[beq_eq_false_iff_ne];omega
  rw[e3];cases decide ((i:Int) < (t.length:Int)) <;> rfl
 have hup:∀n i:Nat,i+n=t.length->1<=i->iter (kHa (t,(f:Int),out)) (0,(i:Int))=some ((JIa t f n i:Nat):Int):=by
  intro n;induction n with
  | zero=>
   intro i hi _;refine zGa ?_;unfold kHa;dsimp only;have:decide ((i:Int) < (t.length:Int))=false:=by rw[decide_eq_false_iff_not];omega
   rw[this];rfl
  | succ n ih=>
   intro i hi h1i;have hb:kHa (t,(f:Int),out) (0,(i:Int))=some (.cont ((bif br t f i then (i:Int) else 0),((i+1:Nat):Int))):=by
    unfold kHa;dsimp only;have e1:decide ((i:Int) < (t.length:Int))=true:=by simp;omega
    rw[test i h1i (by omega),e1,sc i (by omega)];simp only[beq_self_eq_true,cond_true,Option.bind_some];cases br t f i <;> rfl
   rw[zQa hb];unfold JIa;cases hq:br t f i with
   | false=>simpa using ih (i+1) (by omega) (by omega)
   | true=>
    simp only[cond_true,if_true];exact hout i (i+1) (by omega)
 unfold cutP;have e79:((79:Nat):Int)=79:=rfl;by_cases h0:QUa t f 78=0
 .rw[if_pos h0,h0];have:=hup (t.length - 79) 79 (by omega) (by omega);rw[e79]at this;exact this
 rw[if_neg h0];have:=hout (QUa t f 78) 79 h0;rw[e79]at this;exact this
def Qca:Nat->Str->Nat->List Str
 | 0,t,_=>[t]
 | n+1,t,f=>if 78 < t.length then (if cutP t f=0 then [t] else t.take (cutP t f)::Qca n (t.drop (cutP t f)) 1) else [t]
theorem JKa:∀(n m:Nat) (t:Str) (f:Nat),t.length<=n->t.length<=m->Qca n t f=Qca m t f:=by
 intro n;induction n with
 | zero=>
  intro m t f h1 h2;cases m with
  | zero=>rfl
  | succ m=>unfold Qca;rw[if_neg (by omega)]
 | succ n ih=>
  intro m t f h1 h2;cases m with
  | zero=>unfold Qca;rw[if_neg (by omega)]
  | succ m=>
   unfold Qca;split
   .split
    .rfl
    rename_i hc;have:=ZJa hc;rw[ih m _ 1 (by simp;omega) (by simp;omega)]
   rfl
def yya(t:Str)(f:Nat):List Str:=Qca t.length t f
theorem Vla{t:Str}{f:Nat}(h:78 < t.length)(hc:cutP t f≠0):yya t f=t.take (cutP t f)::yya (t.drop (cutP t f)) 1:=by
 unfold yya;obtain ⟨n,hn⟩:∃n,t.length=n+1:=⟨t.length - 1,by omega⟩;have hp:=ZJa hc;rw[hn,Qca,if_pos h,if_neg hc];rw[JKa n (t.drop (cutP t f)).length _ 1 (by simp;omega) (Nat.le_refl _)]
theorem vKa{t:Str}{f:Nat}(h:¬78 < t.length∨cutP t f=0):yya t f=[t]:=by
 unfold yya;cases hn:t.length with
 | zero=>rfl
 | succ n=>
  rw[Qca];rcases h with h | h
  .rw[if_neg h]
  split
  .rfl
  rfl
theorem Vma:∀(n:Nat) (t:Str) (f:Nat),t.length<=n->(yya t f).flatten=t/\(yya t f).length<=t.length+1:=by
 intro n;induction n with
 | zero=>intro t f h;rw[vKa (.inl (by omega))];simp
 | succ n ih=>
  intro t f h;by_cases h78:78 < t.length
  .by_cases hc:cutP t f=0
   .rw[vKa (.inr hc)];simp
   have hp:=ZJa hc;rw[Vla h78 hc];obtain ⟨h1,h2⟩:=ih (t.drop (cutP t f)) 1 (by simp;omega);rw[List.flatten_cons,h1];refine ⟨by simp,?_⟩;simp only[List.length_cons,List.length_drop]at h2 ⊢;omega
  rw[vKa (.inl h78)];simp
theorem YGa{body:Str × Int × List Str->Option (Step (Str × Int × List Str) (Str × List Str))}(enc:Nat->Int)(g:Nat)
 (h:∀(t:Str) (f:Nat) (out:List Str),t.length<=4194304->out.length<=4194305->f<=4194304->body (t,enc f,out)=some (if 78 < t.length then (if cutP t (max f 1)=0 then .out (t,out) else .cont (t.drop (cutP t (max f 1)),enc g,out++ [t.take (cutP t (max f 1))])) else .out (t,out))) (h0:max g 1=1):
 ∀(n:Nat) (t:Str) (f:Nat) (out:List Str),t.length<=n->t.length<=4194304->out.length+t.length<=4194305->f<=4194304->∃last init,iter body (t,enc f,out)=some (last,init)/\init++ [last]=out++yya t (max f 1):=by
 intro n;induction n with
 | zero=>
  intro t f out h1 h2 h3 h4;have hb:=h t f out h2 (by omega) h4;rw[if_neg (by omega)]at hb;exact ⟨t,out,zGa hb,by rw[vKa (.inl (by omega))]⟩
 | succ n ih=>
  intro t f out h1 h2 h3 h4;have hb:=h t f out h2 (by omega) h4;by_cases h78:78 < t.length
  .rw[if_pos h78]at hb;by_cases hc:cutP t (max f 1)=0
   .rw[if_pos hc]at hb;exact ⟨t,out,zGa hb,by rw[vKa (.inr hc)]⟩
   rw[if_neg hc]at hb;have hp:=ZJa hc;obtain ⟨last,init,q1,q2⟩:=ih (t.drop (cutP t (max f 1))) g (out++ [t.take (cutP t (max f 1))]) (by simp;omega) (by simp;omega) (by simp;omega) (by omega);refine ⟨last,init,(zQa hb).trans q1,?_⟩;rw[q2,h0,Vla h78 hc];simp
  rw[if_neg h78]at hb;exact ⟨t,out,zGa hb,by rw[vKa (.inl h78)]⟩
def txt(n v:Str):Str:=n++ [58,32]++v
def flP(n v:Str):List Str:=yya (txt n v) (n.length+2)
theorem yeb(t:Str)(f:Nat)(ht:t.length<=4194304)(hf:f<=4194304):∃last init,iter wMa (t,(f:Int),([]:List Str))=some (last,init)/\init++ [last]=yya t (max f 1):=by
 have:=YGa (body:=wMa) (fun n=>(n:Int)) 0 (fun t f out h1 h2 h3=>by
  unfold wMa;dsimp only;by_cases h78:78 < t.length
  .have hd:decide ((78:Int) < (t.length:Int))=true:=by rw[decide_eq_true_eq];omega
   rw[hd,if_pos h78,JJa t f h1 h3];simp only[cond_true,Option.bind_some];by_cases hc:cutP t (max f 1)=0
   .rw[if_pos hc,hc];rfl
   have hp:=ZJa hc;have e:(((cutP t (max f 1):Nat):Int)==0)=false:=by rw[beq_eq_false_iff_ne];omega
   rw[if_neg hc,e,jZa (by omega),ySa (by omega)];simp only[cond_false,Option.bind_some];rw[kna (by simp;omega)];rfl
  have hd:decide ((78:Int) < (t.length:Int))=false:=by rw[decide_eq_false_iff_not];omega
  rw[hd,if_neg h78];rfl) (by decide) t.length t f [] (Nat.le_refl _) ht (by simp;omega) hf
 simpa using this
theorem ref_loop(t:Str)(f:Nat)(ht:t.length<=4194304)(hf:f<=4194304)(h1f:1<=f):∃last init,iter vXa (t,(f:Int),([]:List Str))=some (last,init)/\init++ [last]=yya t f:=by
 have:=YGa (body:=vXa) (fun n=>((max n 1:Nat):Int)) 1 (fun t f out h1 h2 h3=>by
  unfold vXa;dsimp only;by_cases h78:78 < t.length
  .have hd:decide ((78:Int) < (t.length:Int))=true:=by rw[decide_eq_true_eq];omega
   have hc0:=R_cut_eq t (max f 1) out h1 h78 (by omega) (by omega);obtain ⟨b10,hb10,hc1⟩:=Option.bind_eq_some_iff.1 hc0;rw[hd,if_pos h78,hb10];simp only[cond_true,Option.bind_some];rw[hc1];simp only[Option.bind_some];by_cases hc:cutP t (max f 1)=0
   .rw[if_pos hc,hc];rfl
   have hp:=ZJa hc;have e:(((cutP t (max f 1):Nat):Int)==0)=false:=by rw[beq_eq_false_iff_ne];omega
   rw[if_neg hc,e,jZa (by omega),ySa (by omega)];simp only[cond_false,Option.bind_some];rw[kna (by simp;omega)];rfl
  have hd:decide ((78:Int) < (t.length:Int))=false:=by rw[decide_eq_false_iff_not];omega
  rw[hd,if_neg h78];rfl) (by decide) t.length t f [] (Nat.le_refl _) ht (by simp;omega) hf
 have e:max f 1=f:=by omega
 rw[e]at this;simpa using this
theorem yfb(n v:Str)(hn:n.length<=1048576)(hv:v.length<=1048576):cat n [58,32]=some (n++ [58,32])/\cat (n++ [58,32]) v=some (txt n v)/\w64 ((n.length:Int)+2)=((n.length+2:Nat):Int):=by
 refine ⟨joa (by simp;omega),joa (by simp;omega),?_⟩;rw[qGa (by omega) (by omega)];omega
theorem Wua(n v:Str):(txt n v).length=n.length+2+v.length:=by unfold txt;simp;omega
theorem Zqa(n v:Str)(hn:n.length<=1048576)(hv:v.length<=1048576):yPa n v=some (flP n v):=by
 obtain ⟨h1,h2,h3⟩:=yfb n v hn hv;have hl:=Wua n v;obtain ⟨last,init,q1,q2⟩:=ref_loop (txt n v) (n.length+2) (by omega) (by omega) (by omega);unfold yPa flP;rw[h1];simp only[Option.bind_some];rw[h2];simp only[Option.bind_some];rw[h3,q1];simp only[Option.bind_some];have hj:=(Vma (txt n v).length (txt n v) (n.length+2) (Nat.le_refl _)).2;rw[<-q2]at hj;simp at hj;rw[kna (by simp;omega),q2];rfl
def Wva(i:Nat)(l:Str):Option Int:=if 998 < l.length then some (i:Int) else none
def kUb(n v:Str):List Str × zua:=
 if !fnP n then ([],⟨10, -1⟩) else if 4000 < v.length then ([],⟨1, -1⟩) else if !valP v then ([],⟨11, -1⟩) else match zFa Wva 0 (flP n v) with | some i=>([],⟨1,i⟩) | none=>(flP n v,⟨0,0⟩)
theorem qKb(n v:Str):(flP n v).length<=n.length+v.length+3:=by
 have:=(Vma (txt n v).length (txt n v) (n.length+2) (Nat.le_refl _)).2;have hl:=Wua n v;unfold flP;omega
theorem dec998(l:Str):decide ((998:Int) < (l.length:Int))=decide (998 < l.length):=by generalize l.length=n;rw[Bool.eq_iff_iff];simp;omega
theorem yWa(n v:Str)(hn:n.length<=1048576)(hv:v.length<=1048576):yua n v=some (kUb n v):=by
 obtain ⟨h1,h2,h3⟩:=yfb n v hn hv;have hl:=Wua n v;obtain ⟨last,init,q1,q2⟩:=yeb (txt n v) (n.length+2) (by omega) (by omega);rw[show max (n.length+2) 1=n.length+2 by omega]at q2;unfold yua kUb;rw[zxb n hn,JHa v hv];simp only[Option.bind_some,kpa,qaa];cases fnP n with
 | false=>rfl
 | true=>
  simp only[Bool.not_true,cond_false,Bool.false_eq_true,if_false];by_cases h4:4000 < v.length
  .have hd:decide ((4000:Int) < (v.length:Int))=true:=by rw[decide_eq_true_eq];omega
   rw[hd,if_pos h4];rfl
  have hd:decide ((4000:Int) < (v.length:Int))=false:=by rw[decide_eq_false_iff_not];omega
  rw[hd,if_neg h4];simp only[cond_false];cases valP v with
  | false=>rfl
  | true=>
   simp only[Bool.not_true,cond_false,Bool.false_eq_true,if_false];rw[h1];simp only[Option.bind_some];rw[h2];simp only[Option.bind_some];rw[h3,q1];simp only[Option.bind_some];have hj:=qKb n v;have hfl:flP n v=init++ [last]:=q2.symm;have hj2:=hj;rw[hfl]at hj2;simp at hj2;rw[kna (by simp;omega),<-hfl];simp only[Option.bind_some];rw[zVa (flP n v) (fun i l=>(Wva i l).map fun k=>(([]:List Str),(⟨1,k⟩:zua))) (.inl ()) .inr]
   .simp only[Option.bind_some];have hm:∀(l:List Str) (i:Nat),zFa (fun i l=>(Wva i l).map fun k=>(([]:List Str),(⟨1,k⟩:zua))) i l=(zFa Wva i l).map fun k=>(([]:List Str),(⟨1,k⟩:zua)):=by
     intro l;induction l with
     | nil=>intro i;rfl
     | cons x l ih=>intro i;unfold zFa;rw[ih];cases Wva i x <;> rfl
    rw[hm];cases zFa Wva 0 (flP n v) <;> rfl
   .unfold yOa;rw[zSa];rfl
   intro i l hli;have hi:=zXa hli;unfold yOa Wva;rw[kza hli,zMa hli];simp only[cond_true,Option.bind_some,dec998,kpa,sc i (by omega)];by_cases h9:998 < l.length
   .simp[h9]
   simp[h9]
def jQa(f:zia):Int:=(kUb f.Name f.Value).2.Code
def JLa(l:List Str):Bool:=l.any fun s=>decide (998 < s.length)
theorem YHa(l:List Str):∀n,(zFa Wva n l).isSome=JLa l:=by
 induction l with
 | nil=>intro n;rfl
 | cons x l ih=>
  intro n;unfold zFa JLa Wva;by_cases h:998 < x.length
  .simp[h]
  simp only[h,if_false,List.any_cons,decide_false,Bool.false_or];exact ih (n+1)
def ygb(n v:Str):Int:=if !fnP n then 10 else if 4000 < v.length then 1 else if !valP v then 11 else if JLa (flP n v) then 1 else 0
theorem JMa(f:zia):jQa f=ygb f.Name f.Value:=by
 unfold jQa kUb ygb;rw[<-YHa (flP f.Name f.Value) 0];split
 .rfl
 split
 .rfl
 split
 .rfl
 cases zFa Wva 0 (flP f.Name f.Value) <;> rfl
theorem R_In_60(s:Str):R_In (s.length:Int) 1 60=some (s !=([]:Str) && decide (s.length<=60)):=by
 rw[vJa];cases s with
 | nil=>rfl
 | cons c s=>
  have h:decide ((1:Int)<=((c::s).length:Int))=true:=by rw[decide_eq_true_eq];simp;omega
  rw[h,dec60];rfl
theorem elim_int(c:Int)(o:Option Unit)(f:Unit->Option Int):Sum.elim f (fun b=>some b) (o.elim (Sum.inl ()) (fun _=>Sum.inr c):Unit ⊕ Int)=bif o.isSome then some c else f ():=by cases o <;> rfl
theorem Kba(f:zia)(hn:f.Name.length<=1048576)(hv:f.Value.length<=1048576):jIa f=some (jQa f):=by
 rw[JMa];unfold jIa;have hl1:iter (wCa f) 0=some ((zFa (fun _ c=>if !fnC c then some () else none) 0 f.Name).elim (.inl ()) fun _=>.inr 10):=by
  refine zVa f.Name _ (Sum.inl ()) (fun _=>Sum.inr 10) ?_ ?_
  .unfold wCa;rw[zSa];rfl
  intro i c hc;have hi:=zXa hc;unfold wCa;rw[kza hc,zMa hc];simp only[cond_true,Option.bind_some,vJa,qNa c 58 (by decide),yTa 33 c (by decide),yUa 126 c (by decide),sc i (by omega)];unfold fnC bne;cases decide ((33:UInt8)<=c) <;> cases decide (c<=126) <;> cases c==58 <;> rfl
 have hl2:iter (wDa f) 0=some ((zFa (fun _ c=>if endC c then some () else none) 0 f.Value).elim (.inl ()) fun _=>.inr 11):=by
  refine zVa f.Value _ (Sum.inl ()) (fun _=>Sum.inr 11) ?_ ?_
  .unfold wDa;rw[zSa];rfl
  intro i c hc;have hi:=zXa hc;unfold wDa;rw[kza hc,zMa hc];simp only[cond_true,Option.bind_some,qNa c 0 (by decide),qNa c 10 (by decide),qNa c 13 (by decide),sc i (by omega)];unfold endC;cases c==0 <;> cases c==10 <;> cases c==13 <;> rfl
 have hl3:∀l:List Str,l.length<=4194304->iter (wEa l) 0=some ((zFa (fun _ c=>if decide (998 < c.length) then some () else none) 0 l).elim (.inl ()) fun _=>.inr 1):=by
  intro l hl;refine zVa l _ (Sum.inl ()) (fun _=>Sum.inr 1) ?_ ?_
  .unfold wEa;rw[zSa];rfl
  intro i c hc;have hi:=zXa hc;unfold wEa;rw[kza hc,zMa hc];simp only[cond_true,Option.bind_some,dec998,sc i (by omega)];cases decide (998 < c.length) <;> rfl
 have hfl:=qKb f.Name f.Value;rw[hl1];simp only[Option.bind_some,elim_int,jPa,JFa,R_In_60,hl2,Zqa _ _ hn hv,hl3 _ (show (flP f.Name f.Value).length<=4194304 by omega)];have h4:decide ((4000:Int) < (f.Value.length:Int))=decide (4000 < f.Value.length):=by generalize f.Value.length=n;rw[Bool.eq_iff_iff];simp;omega
 have he:(bif decide ((0:Int) < (f.Value.length:Int)) then (idx f.Value 0).bind fun v38=>(vqa v38).bind fun v40=>(bif v40 then some true else (idx f.Value ((w64 ((f.Value.length:Int) - 1)))).bind fun v43=>(vqa v43).bind fun v45=>some v45) else some false)=some (ybb f.Value):=by
  by_cases hn0:f.Value=[]
  .rw[hn0];rfl
  obtain ⟨a,b,h1,h2,h3,h4⟩:=qJb f.Value hn0 hv;have hp:=List.length_pos_iff.2 hn0;have hd:decide ((0:Int) < (f.Value.length:Int))=true:=by rw[decide_eq_true_eq];omega
  unfold ybb;rw[h1,h2,h3,h4,hd];simp only[Option.bind_some,yla,cond_true];cases zPa a <;> rfl
 rw[he,h4];simp only[Option.bind_some];unfold ygb fnP valP JLa;cases f.Name.all fnC <;> cases (f.Name !=([]:Str)) <;> cases decide (f.Name.length<=60) <;> (try rfl)
 simp only[Bool.and_true,Bool.not_true,Bool.false_eq_true,if_false,cond_false];by_cases h4000:4000 < f.Value.length
 .simp[h4000]
 simp only[h4000,decide_false,cond_false,if_false];cases f.Value.any endC <;> cases ybb f.Value <;> (try rfl)
 simp only[Bool.not_false,Bool.and_true,Bool.not_true,Bool.false_eq_true,if_false,cond_false];cases (flP f.Name f.Value).any fun s=>decide (998 < s.length) <;> rfl
def smallF(l:List zia):Prop:=l.length<=1048576/\∀f∈l,f.Name.length<=1048576/\f.Value.length<=1048576
def Zra(i:Nat)(f:zia):Option zua:=if jQa f !=0 then some ⟨jQa f,i⟩ else none
def ZVa(l:List zia):zua:=if 60 < l.length then ⟨2, -1⟩ else (zFa Zra 0 l).getD ⟨0,0⟩
theorem dec60f(l:List zia):decide ((60:Int) < (l.length:Int))=decide (60 < l.length):=by generalize l.length=n;rw[Bool.eq_iff_iff];simp;omega
theorem Qda(l:List zia)(h:smallF l):q6a l=some (ZVa l):=by
 obtain ⟨h1,h2⟩:=h;unfold q6a ZVa;rw[zVa l Zra (.inl ()) .inr]
 .simp only[Option.bind_some,kpa,qaa,YDa,dec60f];by_cases h6:60 < l.length <;> simp[h6]
 .unfold qWa;rw[zSa];rfl
 intro i f hf;have hi:=zXa hf;obtain ⟨hn,hv⟩:=h2 f (List.mem_of_getElem? hf);unfold qWa Zra;rw[kza hf,zMa hf];simp only[cond_true,Option.bind_some,yWa _ _ hn hv,kga,kpa,sc i (by omega)];show (bif jQa f !=0 then _ else _)=_;cases jQa f !=0 <;> rfl
theorem ZKa(l:List zia)(h:(ZVa l).Code=0):¬60 < l.length/\zFa Zra 0 l=none/\∀f∈l,jQa f=0:=by
 unfold ZVa at h;by_cases h6:60 < l.length
 .rw[if_pos h6]at h;simp at h
 rw[if_neg h6]at h;cases hq:zFa Zra 0 l with
 | some y=>
  rw[hq]at h;obtain ⟨i,f,h1,h2⟩:=jOa hq;unfold Zra at h2;exfalso;by_cases hc:jQa f=0
  .simp[hc]at h2
  have:(jQa f !=0)=true:=by simpa using hc
  rw[this]at h2;simp at h2;subst h2;exact hc h
 | none=>
  refine ⟨h6,rfl,fun f hf=>?_⟩;obtain ⟨i,hi⟩:=List.getElem?_of_mem hf;have:=wta.1 hq i f hi;unfold Zra at this;simpa using this
theorem JNa{f:zia}(h:jQa f=0):f.Name.length<=60/\f.Value.length<=4000/\kUb f.Name f.Value=(flP f.Name f.Value,⟨0,0⟩)/\∀l∈flP f.Name f.Value,l.length<=998:=by
 have h0:=h;rw[JMa]at h;unfold ygb at h;have h1:fnP f.Name=true:=by cases hx:fnP f.Name with
  | true=>rfl
  | false=>rw[hx]at h;simp at h
 rw[h1]at h;simp only[Bool.not_true,Bool.false_eq_true,if_false]at h;have h2:¬4000 < f.Value.length:=by intro hx;rw[if_pos hx]at h;simp at h
 rw[if_neg h2]at h;have h3:valP f.Value=true:=by cases hx:valP f.Value with
  | true=>rfl
  | false=>rw[hx]at h;simp at h
 rw[h3]at h;simp only[Bool.not_true,Bool.false_eq_true,if_false]at h;have h4:JLa (flP f.Name f.Value)=false:=by cases hx:JLa (flP f.Name f.Value) with
  | false=>rfl
  | true=>rw[hx]at h;simp at h
 refine ⟨?_,by omega,?_,?_⟩
 .unfold fnP at h1;simp only[Bool.and_eq_true,decide_eq_true_eq]at h1;exact h1.1.2
 .unfold kUb;rw[h1,h3];simp only[Bool.not_true,Bool.false_eq_true,if_false,if_neg h2];have:=YHa (flP f.Name f.Value) 0;rw[h4]at this;cases hx:zFa Wva 0 (flP f.Name f.Value) with
  | none=>rfl
  | some y=>rw[hx]at this;cases this
 intro l hl;unfold JLa at h4;rw[List.any_eq_false]at h4;have:=h4 l hl;simp at this;omega
def addL(a:List UInt8)(l:Str):List UInt8:=a++l++ [13,10]
def addF(a:List UInt8)(f:zia):List UInt8:=(flP f.Name f.Value).foldl addL a
def yza(m:zAa):List UInt8:=m.Fields.foldl addF []++ [13,10]++m.Body
theorem qLb(l:List Str)(acc:List UInt8)(hl:l.length<=5000)(h9:∀s∈l,s.length<=998)(ha:acc.length<=1000000000){body:Int × List UInt8->Option (Step (Int × List UInt8) (List UInt8))}
 (h0:∀s,body ((l.length:Int),s)=some (.out s)) (h1:∀(i:Nat) x s,l[i]? =some x->s.length<=1006000000->body ((i:Int),s)=some (.cont (((i+1:Nat):Int),addL s x))):iter body (0,acc)=some (l.foldl addL acc)/\(l.foldl addL acc).length<=acc.length+1000 * l.length:=
 jpa l (fun i s=>(i,s)) addL id (fun i s=>s.length<=acc.length+1000 * i) (body:=body) (fun s _=>h0 s) (fun i x s hx hi=>by
  have hlt:=zXa hx;have h9x:=h9 x (List.mem_of_getElem? hx);refine ⟨h1 i x s hx (by omega),?_⟩;unfold addL;simp;omega) acc (by simp)
theorem zAb(l:List zia)(hl:l.length<=60)(hc:∀f∈l,jQa f=0){body:Int × List UInt8->Option (Step (Int × List UInt8) (List UInt8))}
 (h0:∀s,body ((l.length:Int),s)=some (.out s)) (h1:∀(i:Nat) f s,l[i]? =some f->s.length<=1000000000->body ((i:Int),s)=some (.cont (((i+1:Nat):Int),addF s f))/\(addF s f).length<=s.length+5000000):iter body (0,([]:List UInt8))=some (l.foldl addF [])/\(l.foldl addF []).length<=5000000 * l.length:=
 jpa l (fun i s=>(i,s)) addF id (fun i s=>s.length<=5000000 * i) (body:=body) (fun s _=>h0 s) (fun i f s hf hi=>by
  have hlt:=zXa hf;obtain ⟨q1,q2⟩:=h1 i f s hf (by omega);exact ⟨q1,by omega⟩) [] (by simp)
theorem Vya(m:zAa)(hb:m.Body.length<=1048576)(h60:m.Fields.length<=60)(hc:∀f∈m.Fields,jQa f=0):vVa m=some (yza m):=by
 unfold vVa yza;obtain ⟨h1,h2⟩:=zAb m.Fields h60 hc (body:=qJa m) (fun s=>by unfold qJa;rw[zSa];rfl) (fun i f s hf hs=>by
  have hi:=zXa hf;obtain ⟨c1,c2,c3,c4⟩:=JNa (hc f (List.mem_of_getElem? hf));have hfl:=qKb f.Name f.Value;obtain ⟨q1,q2⟩:=qLb (flP f.Name f.Value) s (by omega) c4 hs (body:=qIa (kUb f.Name f.Value)) (fun s=>by unfold qIa;rw[c3,zSa];rfl) (fun k x s hx hs=>by
   have hk:=zXa hx;have:=c4 x (List.mem_of_getElem? hx);unfold qIa;rw[c3,kza hx,zMa hx];simp only[cond_true,Option.bind_some,sc k (by omega)];rw[kna (by omega)];simp only[Option.bind_some];rw[kna (by simp;omega)];rfl)
  unfold addF;refine ⟨?_,by omega⟩;unfold qJa;rw[kza hf,zMa hf];simp only[cond_true,Option.bind_some,yWa f.Name f.Value (by omega) (by omega),q1,sc i (by omega)])
 rw[h1];simp only[Option.bind_some];rw[kna (by simp;omega)];simp only[Option.bind_some];rw[kna (by simp;omega)];rfl
theorem QVa(m:zAa)(hb:m.Body.length<=1048576)(h60:m.Fields.length<=60)(hc:∀f∈m.Fields,jQa f=0):y3a m=some (yza m):=by
 unfold y3a yza;obtain ⟨h1,h2⟩:=zAb m.Fields h60 hc (body:=vka m) (fun s=>by unfold vka;rw[zSa];rfl) (fun i f s hf hs=>by
  have hi:=zXa hf;obtain ⟨c1,c2,c3,c4⟩:=JNa (hc f (List.mem_of_getElem? hf));have hfl:=qKb f.Name f.Value;obtain ⟨q1,q2⟩:=qLb (flP f.Name f.Value) s (by omega) c4 hs (body:=vja (flP f.Name f.Value)) (fun s=>by unfold vja;rw[zSa];rfl) (fun k x s hx hs=>by
   have hk:=zXa hx;have:=c4 x (List.mem_of_getElem? hx);unfold vja;rw[kza hx,zMa hx];simp only[cond_true,Option.bind_some,sc k (by omega)];rw[kna (by omega)];simp only[Option.bind_some];rw[kna (by simp;omega)];rfl)
  unfold addF;refine ⟨?_,by omega⟩;unfold vka;rw[kza hf,zMa hf];simp only[cond_true,Option.bind_some,Zqa f.Name f.Value (by omega) (by omega),q1,sc i (by omega)])
 rw[h1];simp only[Option.bind_some];rw[kna (by simp;omega)];simp only[Option.bind_some];rw[kna (by simp;omega)];rfl
def Yha:Nat->List UInt8->Option Bool
 | _,[]=>none
 | c,[x]=>if x==13 || x==10 then some true else if 998 < c+1 then some false else none
 | c,x::y::r=>if x==13 && y==10 then Yha 0 r else if x==13 || x==10 then some true else if 998 < c+1 then some false else Yha (c+1) (y::r)
def Qea{O:Type}(e:Bool->O)(c i:Nat)(x:UInt8)(r:List UInt8):Step (Int × Int) (Unit ⊕ O):=
 if x==13 && r.head? ==some 10 then .cont (0,((i+2:Nat):Int)) else if x==13 || x==10 then .out (.inr (e true)) else if 998 < c+1 then .out (.inr (e false)) else .cont (((c+1:Nat):Int),((i+1:Nat):Int))
theorem zBb{O:Type}(e:Bool->O)(l:List UInt8){body:Int × Int->Option (Step (Int × Int) (Unit ⊕ O))}
 (h0:∀c,body (c,(l.length:Int))=some (.out (.inl ())))
 (hs:∀(c:Nat) (p:List UInt8) x r,l=p++x::r->c<=998->body ((c:Int),(p.length:Int))=some (Qea e c p.length x r)):
 ∀(n:Nat) (r p:List UInt8) (c:Nat),r.length<=n->l=p++r->c<=998->iter body ((c:Int),(p.length:Int))=some ((Yha c r).elim (.inl ()) fun b=>.inr (e b)):=by
 intro n;induction n with
 | zero=>
  intro r p c hr hl hc;obtain rfl:r=[]:=List.length_eq_zero_iff.1 (by omega);have:p=l:=by simp[hl]
  subst this;exact zGa (h0 _)
 | succ n ih=>
  intro r p c hr hl hc
  match r,hr,hl with
  | [],_,hl=>
   have:p=l:=by simp[hl]
   subst this;exact zGa (h0 _)
  | [x],hr,hl=>
   have hb:=hs c p x [] hl hc;unfold Qea at hb;have e1:(x==13 && ([]:List UInt8).head? ==some 10)=false:=by simp
   rw[e1]at hb;simp only[Bool.false_eq_true,if_false]at hb;unfold Yha;cases hx:(x==13 || x==10) with
   | true=>rw[hx]at hb;exact zGa hb
   | false=>
    rw[hx]at hb;simp only[Bool.false_eq_true,if_false]at hb ⊢;by_cases h9:998 < c+1
    .rw[if_pos h9]at hb ⊢;exact zGa hb
    rw[if_neg h9]at hb ⊢;rw[zQa hb];have:=ih [] (p++ [x]) (c+1) (by simp) (by simp[hl]) (by omega);rw[List.length_append]at this;exact this
  | x::y::r,hr,hl=>
   have hb:=hs c p x (y::r) hl hc;unfold Qea at hb;have e1:((y::r).head? ==some (10:UInt8))=(y==10):=by simp
   rw[e1]at hb;unfold Yha;cases hxy:(x==13 && y==10) with
   | true=>
    rw[hxy]at hb;simp only[if_true]at hb ⊢;rw[zQa hb];have:=ih r (p++ [x,y]) 0 (by simp at hr;omega) (by simp[hl]) (by omega);rw[List.length_append]at this;exact this
   | false=>
    rw[hxy]at hb;simp only[Bool.false_eq_true,if_false]at hb ⊢;cases hx:(x==13 || x==10) with
    | true=>rw[hx]at hb;exact zGa hb
    | false=>
     rw[hx]at hb;simp only[Bool.false_eq_true,if_false]at hb ⊢;by_cases h9:998 < c+1
     .rw[if_pos h9]at hb ⊢;exact zGa hb
     rw[if_neg h9]at hb ⊢;rw[zQa hb];have:=ih (y::r) (p++ [x]) (c+1) (by simp at hr ⊢;omega) (by simp[hl]) (by omega);rw[List.length_append]at this;exact this
theorem yhb{l p r:List UInt8}{x:UInt8}(h:l=p++x::r)(hl:l.length<=1048576):(bif decide (((p.length+1:Nat):Int) < (l.length:Int)) then (idx l ((p.length+1:Nat):Int)).bind fun v13=>some (((v13.toNat:Int)==10)) else some false)=some (r.head? ==some 10):=by
 subst h;simp at hl;cases r with
 | nil=>
  have:decide (((p.length+1:Nat):Int) < ((p++ [x]).length:Int))=false:=by simp
  rw[this];rfl
 | cons y r=>
  have:decide (((p.length+1:Nat):Int) < ((p++x::y::r).length:Int))=true:=by simp;omega
  rw[this,wsa];have:(p++x::y::r)[p.length+1]? =some y:=by simp[List.getElem?_append_right]
  rw[this];simp only[cond_true,Option.bind_some,qNa y 10 (by decide)];simp
theorem JOa(l:List UInt8)(hl:l.length<=1048576):jma l=some ((Yha 0 l).elim 0 fun b=>bif b then 11 else 1):=by
 unfold jma;have:=zBb (fun b:Bool=>bif b then (11:Int) else 1) l (body:=via l) (fun c=>by unfold via;rw[zSa];rfl) (fun c p x r h hc=>by
  have hx:l[p.length]? =some x:=by simp[h]
  have hi:=zXa hx;unfold via vWa Qea;dsimp only;rw[kza hx,zMa hx];simp only[cond_true,Option.bind_some,qNa x 13 (by decide),qNa x 10 (by decide),sc p.length (by omega),sc (p.length+1) (by omega),sc c (by omega)];rw[yhb h hl];have h9:decide ((998:Int) < ((c+1:Nat):Int))=decide (998 < c+1):=by rw[Bool.eq_iff_iff];simp;omega
  rw[h9];by_cases h98:998 < c+1 <;> simp only[h98,decide_true,decide_false,if_true,if_false] <;> cases x==13 <;> cases x==10 <;> cases r.head? ==some 10 <;> rfl) l.length l [] 0 (Nat.le_refl _) rfl (by omega)
 have h2:iter (via l) (0,0)=_:=this;rw[h2];cases Yha 0 l with
 | none=>rfl
 | some b=>cases b <;> rfl
def bodyF(l:List UInt8):zua:=(Yha 0 l).elim ⟨0,0⟩ fun b=>bif b then ⟨11, -5⟩ else ⟨1, -6⟩
theorem Wwa(l:List UInt8)(hl:l.length<=1048576):wNa l=some (bodyF l):=by
 unfold wNa bodyF;rw[JOa l hl];cases Yha 0 l with
 | none=>rfl
 | some b=>cases b <;> rfl
def msgF(m:zAa):zua:=if (ZVa m.Fields).Code !=0 then ZVa m.Fields else if 12000 < (yza m).length then ⟨1, -4⟩ else bodyF m.Body
def yib(m:zAa):Prop:=smallF m.Fields/\m.Body.length<=1048576
theorem KHa(m:zAa)(h:yib m):qKa m=some (msgF m):=by
 obtain ⟨h1,h2⟩:=h;unfold qKa msgF;rw[Qda _ h1];simp only[Option.bind_some,kga,kpa,Wwa _ h2];cases hc:(ZVa m.Fields).Code !=0 with
 | true=>rfl
 | false=>
  obtain ⟨q1,q2,q3⟩:=ZKa m.Fields (by simpa using hc);rw[Vya m h2 (by omega) q3];simp only[Option.bind_some,cond_false,Bool.false_eq_true,if_false];have:decide ((12000:Int) < ((yza m).length:Int))=decide (12000 < (yza m).length):=by generalize (yza m).length=n;rw[Bool.eq_iff_iff];simp;omega
  rw[this];by_cases hb:12000 < (yza m).length <;> simp[hb]
theorem QWa(m:zAa)(h:yib m):y4a m=some (msgF m):=by
 obtain ⟨⟨h1,h3⟩,h2⟩:=h;unfold y4a msgF;rw[zVa m.Fields Zra (.inl ()) .inr]
 .have hbl:iter (qoa m) (0,0)=_:=zBb (fun b:Bool=>bif b then (⟨11, -5⟩:zua) else ⟨1, -6⟩) m.Body (body:=qoa m) (fun c=>by unfold qoa;rw[zSa];rfl) (fun c p x r h hc=>by
   have hx:m.Body[p.length]? =some x:=by simp[h]
   have hi:=zXa hx;unfold qoa wna Qea;dsimp only;rw[kza hx,zMa hx];simp only[cond_true,Option.bind_some,qNa x 13 (by decide),qNa x 10 (by decide),sc p.length (by omega),sc (p.length+1) (by omega),sc c (by omega),KFa];rw[yhb h h2];have h9:decide ((998:Int) < ((c+1:Nat):Int))=decide (998 < c+1):=by rw[Bool.eq_iff_iff];simp;omega
   rw[h9];by_cases h98:998 < c+1 <;> simp only[h98,decide_true,decide_false,if_true,if_false] <;> cases x==13 <;> cases x==10 <;> cases r.head? ==some 10 <;> rfl) m.Body.length m.Body [] 0 (Nat.le_refl _) rfl (by omega)
  rw[hbl,dec60f];simp only[Option.bind_some,KFa];by_cases h6:60 < m.Fields.length
  .have:ZVa m.Fields=⟨2, -1⟩:=by unfold ZVa;rw[if_pos h6]
   rw[this];simp[h6]
  simp only[h6,decide_false,cond_false];have hh:ZVa m.Fields=(zFa Zra 0 m.Fields).getD ⟨0,0⟩:=by unfold ZVa;rw[if_neg h6]
  cases hq:zFa Zra 0 m.Fields with
  | some y=>
   rw[hq]at hh;have hc:((ZVa m.Fields).Code !=0)=true:=by
    cases hc:(ZVa m.Fields).Code !=0 with
    | true=>rfl
    | false=>
     obtain ⟨_,q2,_⟩:=ZKa m.Fields (by simpa using hc);rw[hq]at q2;cases q2
   rw[hc,hh];rfl
  | none=>
   rw[hq]at hh;have hz:ZVa m.Fields=⟨0,0⟩:=hh;obtain ⟨q1,q2,q3⟩:=ZKa m.Fields (by rw[hz]);rw[QVa m h2 (by omega) q3,hz];simp only[Option.bind_some,Option.elim_none,Sum.elim_inl];have hbb:m.Body.length<=(yza m).length:=by unfold yza;simp;omega
   have e2:(bif decide ((12000:Int) < (m.Body.length:Int)) then some true else some (decide ((12000:Int) < ((yza m).length:Int))))=some (decide (12000 < (yza m).length)):=by
    generalize (yza m).length=n at *;by_cases hx:12000 < m.Body.length
    .have e3:decide ((12000:Int) < (m.Body.length:Int))=true:=by rw[decide_eq_true_eq];omega
     have e4:decide (12000 < n)=true:=by rw[decide_eq_true_eq];omega
     rw[e3,e4];rfl
    have e3:decide ((12000:Int) < (m.Body.length:Int))=false:=by rw[decide_eq_false_iff_not];omega
    rw[e3];simp only[cond_false,Option.some.injEq];rw[Bool.eq_iff_iff];simp;omega
   rw[e2];simp only[Option.bind_some];unfold bodyF;by_cases hb:12000 < (yza m).length
   .simp[hb]
   simp only[hb,decide_false,cond_false,if_false];cases Yha 0 m.Body <;> rfl
 .unfold wma;rw[zSa];rfl
 intro i f hf;have hi:=zXa hf;obtain ⟨hn,hv⟩:=h3 f (List.mem_of_getElem? hf);unfold wma Zra;rw[kza hf,zMa hf];simp only[cond_true,Option.bind_some,Kba _ hn hv,KFa,sc i (by omega)];cases jQa f !=0 <;> rfl
def add1(o:List Str)(x:Str):List Str:=if o.contains x then o else o++ [x]
def Wxa(o xs:List Str):List Str:=xs.foldl add1 o
theorem add1_mem(o:List Str)(x y:Str):y∈add1 o x↔y∈o∨y=x:=by
 unfold add1;split
 .rename_i h;simp at h;constructor
  .exact .inl
  rintro (h1 | rfl)
  .exact h1
  exact h
 simp
theorem kVb(o:List Str)(x:Str):o <+:add1 o x:=by
 unfold add1;split
 .exact List.prefix_refl _
 exact List.prefix_append _ _
theorem vKb{o:List Str}(h:o.Nodup)(x:Str):(add1 o x).Nodup:=by
 unfold add1;split
 .exact h
 rename_i hx;simp at hx;rw[List.nodup_append];exact ⟨h,by simp,fun a ha b hb hab=>by simp at hb;subst hb;subst hab;exact hx ha⟩
theorem YIa(xs:List Str):∀(o:List Str) (y:Str),y∈Wxa o xs↔y∈o∨y∈xs:=by
 induction xs with
 | nil=>intro o y;simp[Wxa]
 | cons x xs ih=>intro o y;show y∈Wxa (add1 o x) xs↔_;rw[ih,add1_mem];simp[or_assoc]
theorem JPa(xs:List Str):∀o:List Str,o <+:Wxa o xs:=by
 induction xs with
 | nil=>intro o;exact List.prefix_refl _
 | cons x xs ih=>intro o;exact (kVb o x).trans (ih _)
theorem Vna(xs:List Str):∀{o:List Str},o.Nodup->(Wxa o xs).Nodup:=by
 induction xs with
 | nil=>intro o h;exact h
 | cons x xs ih=>intro o h;exact ih (vKb h x)
theorem nodup_le{l m:List Str}(hl:l.Nodup)(h:∀x∈l,x∈m):l.length<=m.length:=by
 induction l generalizing m with
 | nil=>simp
 | cons x l ih=>
  have hx:x∈m:=h x (by simp);obtain ⟨hxl,hl'⟩:=List.nodup_cons.1 hl;have:=ih (m:=m.erase x) hl' (fun y hy=>by
   have hne:y≠x:=by rintro rfl;exact hxl hy
   exact (List.mem_erase_of_ne hne).2 (h y (by simp[hy])))
  rw[List.length_erase_of_mem hx]at this;have:0 < m.length:=List.length_pos_of_mem hx;simp;omega
def tgtO(l:List yra)(s:Str):Option (List Str):=(l.find? (fun a=>a.Address==s)).map (·.To)
def tgt(l:List yra)(s:Str):List Str:=(tgtO l s).getD []
def univ(l:List yra)(from_:List Str):List Str:=from_++l.flatMap (·.To)
theorem tgt_sub(l:List yra)(s x:Str)(h:x∈tgt l s):∃a∈l,a.Address=s/\x∈a.To:=by
 unfold tgt tgtO at h;cases hf:l.find? (fun a=>a.Address==s) with
 | none=>rw[hf]at h;simp at h
 | some a=>
  rw[hf]at h;have:=List.find?_some hf;exact ⟨a,List.mem_of_find?_eq_some hf,by simpa using this,by simpa using h⟩
structure Inv (l:List yra) (U:List Str) (k:Nat) (out:List Str):Prop where
 nd:out.Nodup
 sub:∀x∈out,x∈U
 le:k<=out.length
theorem Inv.len{l:List yra}{U:List Str}{k:Nat}{out:List Str}(h:Inv l U k out):out.length<=U.length:=nodup_le h.nd h.sub
theorem Inv.step{l:List yra}{from_:List Str}{k:Nat}{out:List Str}(h:Inv l (univ l from_) k out){s:Str}(hs:out[k]? =some s):Inv l (univ l from_) (k+1) (Wxa out (tgt l s)):=by
 refine ⟨Vna _ h.nd,fun x hx=>?_,?_⟩
 .rcases (YIa _ _ _).1 hx with h1 | h1
  .exact h.sub x h1
  obtain ⟨a,ha,_,hxa⟩:=tgt_sub l s x h1;exact List.mem_append.2 (.inr (List.mem_flatMap.2 ⟨a,ha,hxa⟩))
 have:=(JPa (tgt l s) out).length_le;have:=zXa hs;omega
theorem Inv.start(l:List yra)(from_:List Str):Inv l (univ l from_) 0 (Wxa [] from_):=
 ⟨Vna _ List.nodup_nil,fun x hx=>by
  rcases (YIa _ _ _).1 hx with h1 | h1
  .simp at h1
  exact List.mem_append.2 (.inl h1),Nat.zero_le _⟩
instance:DecidableEq zca:=fun a b=>decidable_of_iff (a.Address=b.Address/\a.Notify=b.Notify) (by cases a;cases b;simp)
instance:DecidableEq zua:=fun a b=>decidable_of_iff (a.Code=b.Code/\a.Index=b.Index) (by cases a;cases b;simp)
instance:DecidableEq kNa:=fun a b=>decidable_of_iff (a.From=b.From/\a.To=b.To/\a.Id=b.Id) (by cases a;cases b;simp)
theorem rec_eq(a b:zca):yaa [(a.Address==b.Address),(a.Notify==b.Notify)]=(a==b):=by
 cases a;cases b;rw[Bool.eq_iff_iff];simp[yaa]
theorem KIa(a b:List zca)(ha:a.length<=1048576):qHa a b=some (a==b):=by
 unfold qHa;by_cases hlen:a.length=b.length
 .have h1:((a.length:Int) !=(b.length:Int))=false:=by rw[hlen];simp
  rw[h1];simp only[cond_false];rw[zVa a (fun i x=>if b[i]? !=some x then some false else none) (.inl ()) .inr]
  .simp only[Option.bind_some];cases hf:zFa (fun i x=>if b[i]? !=some x then some false else none) 0 a with
   | none=>
    rw[wta]at hf;have:a=b:=by
     apply List.ext_getElem?;intro i;by_cases hi:i < a.length
     .have:=hf i a[i] (List.getElem?_eq_getElem hi);rw[Nat.zero_add]at this;rw[List.getElem?_eq_getElem hi];simp at this;exact this.symm
     rw[List.getElem?_eq_none (by omega),List.getElem?_eq_none (by omega)]
    subst this;simp
   | some r=>
    obtain ⟨i,x,hx,hq⟩:=jOa hf;rw[Nat.zero_add]at hq;split at hq
    .cases hq;rename_i hne;have:(a==b)=false:=by
      rw[beq_eq_false_iff_ne];rintro rfl;rw[hx]at hne;simp at hne
     rw[this];rfl
    cases hq
  .unfold qAa;rw[zSa];rfl
  intro i x hx;have hi:=zXa hx;unfold qAa;have hib:i < b.length:=by omega
  rw[kza hx,zMa hx,Vja hib,List.getElem?_eq_getElem hib];simp only[cond_true,Option.bind_some,sc i (by omega),rec_eq];by_cases hxb:x=b[i]
  .subst hxb;simp
  have e1:(x==b[i])=false:=by simpa using hxb
  have e2:(some b[i] !=some x)=true:=by simp;exact fun h=>hxb h.symm
  rw[e1,e2];rfl
 have h1:((a.length:Int) !=(b.length:Int))=true:=by simp;omega
 rw[h1];simp only[cond_true];have:(a==b)=false:=by rw[beq_eq_false_iff_ne];rintro rfl;exact hlen rfl
 rw[this]
def Qfa(a b:Int)(s:Int × Int):Int × Int:=(bif (iRem (iQuo a s.2) 2==1 || iRem (iQuo b s.2) 2==1) then w64 (s.1+s.2) else s.1,w64 (2 * s.2))
def kWb(a b:Int):Int:=(Qfa a b (Qfa a b (Qfa a b (0,1)))).1
theorem Wya(a b n k:Int)(hk:k<=4)(h0:(k==0)=false):yta a b (n,k)=some (.cont (Qfa a b (n,k))):=by
 unfold yta Qfa;have h1:decide (k<=4)=true:=by simp;exact hk
 have h2:nz k=some true:=by unfold nz;rw[h0];rfl
 dsimp only;rw[h1,h2];simp only[cond_true,Option.bind_some];cases iRem (iQuo a k) 2==1 <;> cases iRem (iQuo b k) 2==1 <;> rfl
theorem kXb(a b:Int):Jza a b=some (kWb a b):=by
 unfold Jza;have e1:(Qfa a b (0,1)).2=2:=show w64 (2 * 1)=2 by decide
 have e2:∀n,(Qfa a b (n,2)).2=4:=fun n=>show w64 (2 * 2)=4 by decide
 have e3:∀n,(Qfa a b (n,4)).2=8:=fun n=>show w64 (2 * 4)=8 by decide
 rw[zQa (Wya a b 0 1 (by decide) (by decide))];have f1:Qfa a b (0,1)=((Qfa a b (0,1)).1,2):=Prod.ext rfl e1;rw[f1,zQa (Wya a b _ 2 (by decide) (by decide))];have f2:∀n,Qfa a b (n,2)=((Qfa a b (n,2)).1,4):=fun n=>Prod.ext rfl (e2 n)
 rw[f2,zQa (Wya a b _ 4 (by decide) (by decide))];have f3:∀n,Qfa a b (n,4)=((Qfa a b (n,4)).1,8):=fun n=>Prod.ext rfl (e3 n)
 rw[f3];have hlast:∀n:Int,yta a b (n,8)=some (.out n):=by intro n;unfold yta;rfl
 rw[zGa (hlast _)];unfold kWb;rw[f1,f2];rfl
theorem vLb:∀a b:Fin 8,kWb (a.val:Int) (b.val:Int)=iOr (a.val:Int) (b.val:Int)/\qEa (kWb (a.val:Int) (b.val:Int))=true:=by decide+kernel
theorem qMb{n:Int}(h:qEa n=true):∃a:Fin 8,n=(a.val:Int):=by
 unfold qEa at h;simp at h;exact ⟨⟨n.toNat,by omega⟩,by simp;omega⟩
theorem yjb{a b:Int}(ha:qEa a=true)(hb:qEa b=true):kWb a b=iOr a b/\qEa (iOr a b)=true:=by
 obtain ⟨x,rfl⟩:=qMb ha;obtain ⟨y,rfl⟩:=qMb hb;obtain ⟨h1,h2⟩:=vLb x y;exact ⟨h1,h1▸h2⟩
def orL(n:Int)(l:List zca):Int:=l.foldl (fun n r=>iOr n r.Notify) n
def kha(s:Str)(r:zca):Bool:=r.Address==s
def jra:Nat->List zca->List zca
 | 0,_=>[]
 | _,[]=>[]
 | n+1,r::t=>⟨r.Address,orL r.Notify (t.filter (kha r.Address))⟩::jra n (t.filter fun x=> !kha r.Address x)
theorem JQa:∀(n m:Nat) (l:List zca),l.length<=n->l.length<=m->jra n l=jra m l:=by
 intro n;induction n with
 | zero=>intro m l h1 h2;have:l=[]:=List.length_eq_zero_iff.1 (by omega);subst this;cases m <;> rfl
 | succ n ih=>
  intro m l h1 h2;cases l with
  | nil=>cases m <;> rfl
  | cons r t=>
   cases m with
   | zero=>simp at h2
   | succ m=>
    unfold jra
    congr 1
    have:=List.length_filter_le (fun x=> !kha r.Address x) t;simp at h1 h2;exact ih m _ (by omega) (by omega)
def v5a(l:List zca):List zca:=jra l.length l
theorem KJa(r:zca)(t:List zca):v5a (r::t)=⟨r.Address,orL r.Notify (t.filter (kha r.Address))⟩::v5a (t.filter fun x=> !kha r.Address x):=by
 unfold v5a;rw[List.length_cons,jra]
 congr 1
 have:=List.length_filter_le (fun x=> !kha r.Address x) t;exact JQa _ _ _ this (Nat.le_refl _)
def hasA(out:List zca)(s:Str):Bool:=out.any (kha s)
def putR(out:List zca)(r:zca):List zca:=if hasA out r.Address then out.map (fun x=>if kha r.Address x then ⟨x.Address,iOr x.Notify r.Notify⟩ else x) else out++ [r]
theorem vMb:∀(l out:List zca),l.foldl putR out=out.map (fun x=>⟨x.Address,orL x.Notify (l.filter (kha x.Address))⟩)++v5a (l.filter fun x=> !hasA out x.Address):=by
 intro l;induction l with
 | nil=>intro out;simp[orL,v5a,jra]
 | cons r t ih=>
  intro out;rw[List.foldl_cons,ih];unfold putR;cases hh:hasA out r.Address with
  | true=>
   simp only[if_true,List.map_map];have hs:∀s,hasA (out.map fun x=>if kha r.Address x then (⟨x.Address,iOr x.Notify r.Notify⟩:zca) else x) s=hasA out s:=by
    intro s;unfold hasA;rw[List.any_map]
    congr 1
    funext x;show kha s (if kha r.Address x then _ else x)=kha s x;by_cases hq:kha r.Address x=true
    .rw[if_pos hq];rfl
    rw[if_neg hq]
   have h1:(r::t).filter (fun x=> !hasA out x.Address)=t.filter fun x=> !hasA out x.Address:=by rw[List.filter_cons,hh];rfl
   rw[h1];simp only[hs]
   congr 1
   apply List.map_congr_left;intro x hx;simp only[Function.comp];by_cases hr:kha r.Address x=true
   .rw[if_pos hr];have:r.Address=x.Address:=by simpa[kha]using (beq_iff_eq.1 hr).symm
    have h2:(r::t).filter (kha x.Address)=r::t.filter (kha x.Address):=by
     rw[List.filter_cons];simp[kha,this]
    rw[h2];rfl
   rw[if_neg hr];have h2:(r::t).filter (kha x.Address)=t.filter (kha x.Address):=by
    rw[List.filter_cons];have:kha x.Address r=false:=by
     rw[Bool.eq_false_iff];intro h;exact hr (by simp[kha]at h ⊢;exact h.symm)
    rw[this];rfl
   rw[h2]
  | false=>
   simp only[Bool.false_eq_true,if_false,List.map_append,List.map_cons,List.map_nil,List.append_assoc];have h1:(r::t).filter (fun x=> !hasA out x.Address)=r::t.filter fun x=> !hasA out x.Address:=by rw[List.filter_cons,hh];rfl
   rw[h1,KJa];have hno:∀x∈out,kha x.Address r=false:=by
    intro x hx;unfold hasA at hh;rw[List.any_eq_false]at hh;have:=hh x hx;rw[Bool.eq_false_iff];intro h;exact this (by simp[kha]at h ⊢;exact h.symm)
   congr 1
   .apply List.map_congr_left;intro x hx;rw[List.filter_cons,hno x hx];rfl
   have h3:(t.filter fun x=> !hasA out x.Address).filter (kha r.Address)=t.filter (kha r.Address):=by
    rw[List.filter_filter];apply List.filter_congr;intro x hx;by_cases hs:kha r.Address x=true
    .have:x.Address=r.Address:=by simpa[kha]using hs
     rw[hs,this,hh];rfl
    rw[Bool.not_eq_true]at hs;rw[hs];rfl
   have h4:(t.filter fun x=> !hasA out x.Address).filter (fun x=> !kha r.Address x)=t.filter fun x=> !hasA (out++ [r]) x.Address:=by
    rw[List.filter_filter];apply List.filter_congr;intro x hx;unfold hasA;rw[List.any_append];simp only[List.any_cons,List.any_nil,Bool.or_false,Bool.not_or];have:kha x.Address r=kha r.Address x:=by unfold kha;rw[Bool.eq_iff_iff];simp;exact ⟨fun h=>h.symm,fun h=>h.symm⟩
    rw[this,Bool.and_comm]
   rw[h3,h4];rfl
theorem put_all(l:List zca):l.foldl putR []=v5a l:=by
 rw[vMb];have:l.filter (fun x=> !hasA [] x.Address)=l:=List.filter_eq_self.2 (fun x _=>by simp[hasA]);rw[this];rfl
def refM:List zca->List zca->List zca
 | out,[]=>out
 | out,r::t=>refM (if hasA out r.Address then out else out++ [⟨r.Address,orL r.Notify (t.filter (kha r.Address))⟩]) t
theorem refM_eq:∀(l out:List zca),refM out l=out++v5a (l.filter fun x=> !hasA out x.Address):=by
 intro l;induction l with
 | nil=>intro out;simp[refM,v5a,jra]
 | cons r t ih=>
  intro out;unfold refM;rw[ih];cases hh:hasA out r.Address with
  | true=>
   simp only[if_true];rw[List.filter_cons,hh];rfl
  | false=>
   simp only[Bool.false_eq_true,if_false];have h1:(r::t).filter (fun x=> !hasA out x.Address)=r::t.filter fun x=> !hasA out x.Address:=by rw[List.filter_cons,hh];rfl
   rw[h1,KJa,List.append_assoc];have h3:(t.filter fun x=> !hasA out x.Address).filter (kha r.Address)=t.filter (kha r.Address):=by
    rw[List.filter_filter];apply List.filter_congr;intro x hx;by_cases hs:kha r.Address x=true
    .have:x.Address=r.Address:=by simpa[kha]using hs
     rw[hs,this,hh];rfl
    rw[Bool.not_eq_true]at hs;rw[hs];rfl
   have h4:(t.filter fun x=> !hasA out x.Address).filter (fun x=> !kha r.Address x)=t.filter fun x=> !hasA (out++ [⟨r.Address,orL r.Notify (t.filter (kha r.Address))⟩]) x.Address:=by
    rw[List.filter_filter];apply List.filter_congr;intro x hx;unfold hasA;rw[List.any_append];simp only[List.any_cons,List.any_nil,Bool.or_false,Bool.not_or];have:kha x.Address (⟨r.Address,orL r.Notify (t.filter (kha r.Address))⟩:zca)=kha r.Address x:=by unfold kha;rw[Bool.eq_iff_iff];simp;exact ⟨fun h=>h.symm,fun h=>h.symm⟩
    rw[this,Bool.and_comm]
   rw[h3,h4];rfl
theorem refM_all(l:List zca):refM [] l=v5a l:=by
 rw[refM_eq];have:l.filter (fun x=> !hasA [] x.Address)=l:=List.filter_eq_self.2 (fun x _=>by simp[hasA]);rw[this];rfl
theorem vNb(s:Str):∀(l:List zca) (n:Int),qEa n=true->(∀r∈l,qEa r.Notify=true)->l.foldl (fun n r=>if r.Address==s then kWb n r.Notify else n) n=orL n (l.filter (kha s)):=by
 intro l;induction l with
 | nil=>intro n _ _;rfl
 | cons r t ih=>
  intro n hn h;have hr:=h r (by simp);obtain ⟨e1,e2⟩:=yjb hn hr;rw[List.foldl_cons,List.filter_cons];unfold kha;by_cases hs:(r.Address==s)=true
  .rw[if_pos hs,if_pos hs,ih _ (by rw[e1];exact e2) (fun x hx=>h x (by simp[hx])),e1];rfl
  rw[if_neg hs,if_neg hs,ih _ hn (fun x hx=>h x (by simp[hx]))];rfl
def mq(i:Nat)(r:zca):Option zua:=if !vna r.Address then some ⟨10,i⟩ else if !qEa r.Notify then some ⟨3,i⟩ else none
def qNb(l:List zca):List zca × zua:=if 300 < l.length then ([],⟨2, -1⟩) else match zFa mq 0 l with | some f=>([],f) | none=>(v5a l,⟨0,0⟩)
theorem kYb{α R:Type}(q:Nat->α->Option R)(i:Nat)(x:α)(r:List α):zFa q i (x::r)=match q i x with | some y=>some y | none=>zFa q (i+1) r:=rfl
def posA(out:List zca)(s:Str):Option Nat:=out.findIdx? (kha s)
theorem JRa(out:List zca)(s:Str):(posA out s).isSome=hasA out s:=by unfold posA hasA;exact List.findIdx?_isSome
theorem posA_app(out:List zca)(r:zca)(s:Str)(h:hasA out r.Address=false):posA (out++ [r]) s=if r.Address==s then some out.length else posA out s:=by
 unfold posA;rw[List.findIdx?_append];by_cases hs:(r.Address==s)=true
 .rw[if_pos hs];have e:r.Address=s:=beq_iff_eq.1 hs;subst e;have:out.findIdx? (kha r.Address)=none:=by
   have:=JRa out r.Address;rw[h]at this;unfold posA at this;simpa using this
  rw[this];simp[kha]
 rw[if_neg hs];have:kha s r=false:=by unfold kha;simpa using hs
 simp[List.findIdx?_cons,this]
theorem posA_map(out:List zca)(f:zca->zca)(hf:∀x,(f x).Address=x.Address)(s:Str):posA (out.map f) s=posA out s:=by
 unfold posA;rw[List.findIdx?_map]
 congr 1
 funext x;simp[Function.comp,kha,hf]
theorem posA_get:∀(out:List zca) (s:Str) (k:Nat),posA out s=some k->∃x,out[k]? =some x/\x.Address=s:=by
 intro out s k h;unfold posA at h;rw[List.findIdx?_eq_some_iff_getElem]at h;obtain ⟨h1,h2,_⟩:=h;exact ⟨out[k],List.getElem?_eq_getElem h1,by simpa[kha]using h2⟩
theorem set_map(s:Str)(f:zca->zca):∀(out:List zca) (k:Nat) (x:zca),(out.map (·.Address)).Nodup->posA out s=some k->out[k]? =some x->out.set k (f x)=out.map (fun y=>if kha s y then f y else y):=by
 intro out;induction out with
 | nil=>intro k x _ h;simp[posA]at h
 | cons y out ih=>
  intro k x hn hp hk;rw[List.map_cons,List.nodup_cons]at hn;unfold posA at hp;rw[List.findIdx?_cons]at hp;by_cases hy:kha s y=true
  .rw[if_pos hy]at hp;cases hp;simp at hk;subst hk;rw[List.set_cons_zero,List.map_cons,if_pos hy]
   congr 1
   symm
   rw[List.map_congr_left (g:=id)]
   .simp
   intro z hz;have:¬kha s z=true:=by
    intro h;have e1:y.Address=s:=by simpa[kha]using hy
    have e2:z.Address=s:=by simpa[kha]using h
    exact hn.1 (by rw[e1,<-e2];exact List.mem_map_of_mem hz)
   rw[if_neg this];rfl
  rw[if_neg hy]at hp;cases hq:out.findIdx? (kha s) with
  | none=>rw[hq]at hp;simp at hp
  | some k' =>
   rw[hq]at hp;simp at hp;subst hp;rw[List.set_cons_succ,List.map_cons,if_neg hy,ih k' x hn.2 hq (by simpa using hk)]
structure MInv (i:Nat) (out:List zca) (m:List (Str × Int)):Prop where
 len:out.length<=i
 nd:(out.map (·.Address)).Nodup
 mp:∀s,mget m s=(posA out s).map fun k=>((k:Nat):Int)
theorem MInv.put{i:Nat}{out:List zca}{m:List (Str × Int)}(h:MInv i out m)(r:zca):MInv (i+1) (putR out r) (if hasA out r.Address then m else mput m r.Address (out.length:Int)):=by
 unfold putR;cases hh:hasA out r.Address with
 | true=>
  simp only[if_true];have hf:∀x:zca,(if kha r.Address x then (⟨x.Address,iOr x.Notify r.Notify⟩:zca) else x).Address=x.Address:=by intro x;split <;> rfl
  refine ⟨by simp;have:=h.len;omega,?_,fun s=>?_⟩
  .rw[List.map_map,show ((·.Address) ∘ fun x:zca=>if kha r.Address x then (⟨x.Address,iOr x.Notify r.Notify⟩:zca) else x)=(·.Address) from funext hf];exact h.nd
  rw[posA_map _ _ hf];exact h.mp s
 | false=>
  simp only[Bool.false_eq_true,if_false];refine ⟨by simp;exact h.len,?_,fun s=>?_⟩
  .rw[List.map_append,List.nodup_append];refine ⟨h.nd,by simp,?_⟩;intro a ha b hb;simp at hb;subst hb;rintro rfl;obtain ⟨x,hx,hxe⟩:=List.mem_map.1 ha;unfold hasA at hh;rw[List.any_eq_false]at hh;exact hh x hx (by simp[kha,hxe])
  rw[vFb,posA_app _ _ _ hh,h.mp s];by_cases hs:(r.Address==s)=true
  .rw[if_pos hs,if_pos hs];rfl
  rw[if_neg hs,if_neg hs]
theorem QXa(l:List zca)(h:qIb l):vta l=some (qNb l):=by
 obtain ⟨h3,h4⟩:=h;unfold vta qNb;by_cases h300:300 < l.length
 .have:decide ((300:Int) < (l.length:Int))=true:=by simp;omega
  rw[this,if_pos h300];rfl
 have:decide ((300:Int) < (l.length:Int))=false:=by simp;omega
 rw[this,if_neg h300];simp only[cond_false];rw[YCa (body:=qna l) (s0:=((0:Int),([]:List zca),([]:List (Str × Int)))) (S:=List zca × List (Str × Int)) l (fun i s=>((i:Int),s.1,s.2)) (fun i r s=>match zFa mq i r with | some f=>Sum.inr ([],f) | none=>Sum.inl (r.foldl putR s.1)) (fun i r s=>MInv i s.1 s.2)
  (fun s hi=>by unfold qna;simp[zSa,zFa])
  (fun p x r s hl hi=>by
   have hx:l[p.length]? =some x:=by rw[hl];simp
   have hlt:=zXa hx;have ha:=h4 x (List.mem_of_getElem? hx);have hil:=hi.len;have hmp:=hi.mp x.Address;have hq0:mq p.length x=if !vna x.Address then some ⟨10,(p.length:Int)⟩ else if !qEa x.Notify then some ⟨3,(p.length:Int)⟩ else none:=rfl;rw[kYb,hq0];unfold qna;dsimp only;rw[kza hx,zMa hx];simp only[cond_true,Option.bind_some,qDa _ (show x.Address.length < 4294967281 by omega),v4a,kpa];cases hA:vna x.Address with
   | false=>left;rfl
   | true=>
    cases hN:qEa x.Notify with
    | false=>left;rfl
    | true=>
     right;simp only[Bool.not_true,cond_false,Bool.false_eq_true,if_false];refine ⟨(putR s.1 x,if hasA s.1 x.Address then s.2 else mput s.2 x.Address (s.1.length:Int)),?_,rfl,hi.put x⟩;unfold qma;rw[hmp];cases hp:posA s.1 x.Address with
     | some k=>
      obtain ⟨y,hy,hya⟩:=posA_get _ _ _ hp;have hh:hasA s.1 x.Address=true:=by rw[<-JRa,hp];rfl
      simp only[Option.map_some,Option.isSome_some,cond_true,Option.getD_some,zMa hy,Option.bind_some,Int.toNat_natCast,sc p.length (by omega),hh,if_true];unfold putR;rw[hh,if_pos rfl,set_map x.Address (fun y=>⟨y.Address,iOr y.Notify x.Notify⟩) s.1 k y hi.nd hp hy]
     | none=>
      have hh:hasA s.1 x.Address=false:=by rw[<-JRa,hp];rfl
      simp only[Option.map_none,Option.isSome_none,cond_false,hh,Bool.false_eq_true,if_false];rw[kna (by simp;omega)];simp only[Option.bind_some,sc p.length (by omega)];unfold putR;rw[hh];rfl) ([],[]) rfl ⟨Nat.le_refl _,by simp,fun s=>rfl⟩]
 simp only[Option.bind_some,qaa,put_all];cases zFa mq 0 l with
 | some f=>rfl
 | none=>rfl
theorem kZb(l:List zca)(h:l.length<=1048576)(hn:∀r∈l,qEa r.Notify=true):JAa l=some (v5a l):=by
 unfold JAa;rw[YCa (body:=jHa l) (s0:=((0:Int),([]:List zca))) (S:=List zca) l (fun i s=>((i:Int),s)) (fun i r s=>refM s r) (fun i r s=>s.length<=i)
  (fun s hi=>by unfold jHa;simp[zSa,refM])
  (fun p x r s hl hi=>by
   have hx:l[p.length]? =some x:=by rw[hl];simp
   have hlt:=zXa hx;have hnx:=hn x (List.mem_of_getElem? hx);right;refine ⟨_,?_,rfl,?_⟩
   .unfold jHa;dsimp only;rw[kza hx,zMa hx];simp only[cond_true,Option.bind_some,vGb _ _ (show s.length<=1048576 by omega),sc p.length (by omega)];have hk:decide ((0:Int)<=(zFa (fun i y=>if y.Address==x.Address then some ((i:Nat):Int) else none) 0 s).getD (-1))=hasA s x.Address:=zub (fun y=>y.Address==x.Address) s 0;rw[hk];cases hh:hasA s x.Address with
    | true=>rfl
    | false=>
     have hin:=JEa l (fun i (n:Int)=>(i,n)) (fun n y=>if y.Address==x.Address then kWb n y.Notify else n) (fun n=>n) (fun _ _=>True) (body:=jGa l x)
      (fun n _=>by unfold jGa;simp[zSa]) (fun i y n hy _=>by
       have hlt2:=zXa hy;refine ⟨?_,trivial⟩;unfold jGa;dsimp only;rw[kza hy,zMa hy];simp only[cond_true,Option.bind_some,kXb,sc i (by omega)];cases y.Address==x.Address <;> rfl) r (p++ [x]) x.Notify (by simp[hl]) trivial
     have e:(((p++ [x]).length:Nat):Int)=((p.length+1:Nat):Int):=by simp
     rw[e]at hin;rw[hin,vNb x.Address r x.Notify hnx (fun y hy=>hn y (by rw[hl];simp[hy]))];simp only[cond_false,Option.bind_some,Bool.false_eq_true,if_false];rw[kna (by simp;omega)];rfl
   split
   .omega
   simp;omega) ([]:List zca) rfl (Nat.zero_le _)]
 simp only[Option.bind_some,refM_all]
theorem map_fold{α β:Type}(f:α->β)(l:List α):∀o:List β,l.foldl (fun o x=>o++ [f x]) o=o++l.map f:=by
 induction l with
 | nil=>intro o;simp
 | cons x l ih=>intro o;simp[ih]
def lowC(c:UInt8):UInt8:=bif decide ((65:UInt8)<=c) && decide (c<=90) then c+97 - 65 else c
def lowP(s:Str):Str:=s.map lowC
theorem y7a(s:Str)(hs:s.length<=1048576):vIa s=some (lowP s):=by
 unfold vIa;have key:∀r p:Str,s=p++r->iter (qca s) ((p.length:Int),p.map lowC++r)=some (lowP s):=by
  intro r;induction r with
  | nil=>
   intro p h;have hp:p=s:=by simp[h]
   subst hp;refine zGa ?_;unfold qca;dsimp only;rw[zSa];simp[lowP]
  | cons c r ih=>
   intro p h;have hx:s[p.length]? =some c:=by simp[h]
   have hi:=zXa hx;have hx2:(p.map lowC++c::r)[p.length]? =some c:=by
    rw[List.getElem?_append_right (by simp)];simp
   have hb:qca s ((p.length:Int),p.map lowC++c::r)=some (.cont (((p.length+1:Nat):Int),(p++ [c]).map lowC++r)):=by
    unfold qca;dsimp only;rw[kza hx,zMa hx2];simp only[cond_true,Option.bind_some,yTa 65 c (by decide),yUa 90 c (by decide),sc p.length (by omega),Int.toNat_natCast];have hset:(p.map lowC++c::r).set p.length (lowC c)=(p++ [c]).map lowC++r:=by
     rw[List.set_append_right _ _ (by simp)];simp
    have hsame:lowC c=c->p.map lowC++c::r=(p++ [c]).map lowC++r:=by intro h;simp[h]
    unfold lowC at hset hsame ⊢;cases h1:decide ((65:UInt8)<=c) <;> cases h2:decide (c<=90) <;> rw[h1,h2]at hset hsame <;> simp only[Bool.and_true,Bool.and_false,Bool.true_and,Bool.false_and,cond_true,cond_false,Option.bind_some]at hset hsame ⊢
    .rw[hsame trivial]
    .rw[hsame trivial]
    .rw[hsame trivial]
    rw[hset]
   rw[zQa hb];have:=ih (p++ [c]) (by simp[h]);simpa using this
 have:=key s [] rfl;have h2:iter (qca s) (0,s)=some (lowP s):=this;rw[h2];rfl
theorem Kca(n:Str)(hn:n.length<=1048576):woa n=some (fnP n):=by
 unfold woa;rw[yWa n [] hn (by simp)];simp only[Option.bind_some,kga,Option.some.injEq];have h:=JMa ⟨n,[]⟩;unfold jQa at h;dsimp only at h;rw[h];unfold ygb;cases hf:fnP n with
 | false=>rfl
 | true=>
  have h60:n.length<=60:=by unfold fnP at hf;simp only[Bool.and_eq_true,decide_eq_true_eq]at hf;exact hf.1.2
  have hl:flP n []=[txt n []]:=by unfold flP;exact vKa (.inl (by have:=Wua n [];simp at this;omega))
  have hlb:JLa (flP n [])=false:=by
   rw[hl];have:=Wua n [];unfold JLa;simp at this ⊢;omega
  have hv:valP []=true:=rfl;rw[hlb,hv];rfl
theorem yXa(s t:List UInt8)(hs:s.length<=9223372036854775806):kGa s t=some (t.isSuffixOf s):=by
 unfold kGa wla;by_cases h:t.length<=s.length
 .have:decide ((t.length:Int)<=(s.length:Int))=true:=by simp;omega
  rw[this,w64_ns _ _ h (by omega),ySa (by omega)];simp only[cond_true,Option.bind_some,Option.some.injEq];rw[Bool.eq_iff_iff,beq_iff_eq,List.isSuffixOf_iff_suffix,List.suffix_iff_eq_drop];constructor <;> exact fun h=>h.symm
 have:decide ((t.length:Int)<=(s.length:Int))=false:=by simp;omega
 rw[this];simp only[cond_false,Option.bind_some,Option.some.injEq]
 symm
 rw[Bool.eq_false_iff];intro hp;exact h (List.isSuffixOf_iff_suffix.1 hp).length_le
def chop(s:List UInt8):List UInt8:=if [13].isSuffixOf s then s.take (s.length - 1) else s
theorem JSa(s:List UInt8)(hs:s.length<=9223372036854775806):kKa s [13]=some (chop s):=by
 unfold kKa chop;rw[yXa s _ hs];cases h: [13].isSuffixOf s with
 | false=>rfl
 | true=>
  have hl:=(List.isSuffixOf_iff_suffix.1 h).length_le;simp only[List.length_cons,List.length_nil]at hl;simp only[Option.bind_some,cond_true,List.length_cons,List.length_nil];rw[show ((s.length:Int) - ((0+1:Nat):Int))=((s.length - 1:Nat):Int) by omega,j3a _ (by omega),jZa (by omega)];rfl
def eol(b:List UInt8):Nat:=b.findIdx (· ==10)
theorem Kda(c:UInt8):∀b:List UInt8,Lib.indexByte b c=if b.findIdx (· ==c) < b.length then ((b.findIdx (· ==c):Nat):Int) else -1
 | []=>rfl
 | x::b=>by
  have ih:=Kda c b;unfold Lib.indexByte;rw[List.findIdx_cons,ih];cases hx:x==c with
  | true=>simp
  | false=>
   simp only[Bool.false_eq_true,if_false,cond_false,List.length_cons];by_cases h:b.findIdx (· ==c) < b.length
   .rw[if_pos h,if_neg (by simp),if_pos (by omega)];simp
   rw[if_neg h,if_pos (show ((-1:Int)== -1)=true from rfl),if_neg (by omega)]
def yea(b:List UInt8):List UInt8 × Nat:=if eol b < b.length then (chop (b.take (eol b)),eol b+1) else (b,b.length)
theorem Yia(b:List UInt8)(hb:b.length<=1048576):ywa b=some ((yea b).1,((yea b).2:Int)):=by
 unfold ywa yea qra;simp only[Option.bind_some];rw[Kda,show b.findIdx (· ==10)=eol b from rfl];by_cases h:eol b < b.length
 .rw[if_pos h,if_pos h,decide_eq_false (by omega),cond_false,jZa (by omega)];simp only[Option.bind_some];rw[JSa _ (by simp;omega)];simp only[Option.bind_some];rw[w64_nl _ _ (show eol b+OfNat.ofNat 1<=_ by show eol b+1<=_;omega)]
 rw[if_neg h,if_neg h];rfl
theorem ykb{b:List UInt8}{i:Nat}(hi:i < b.length): [13].isSuffixOf (b.take i)=(decide (0 < i) && (b[i - 1]?).elim false (· ==13)):=by
 cases i with
 | zero=>simp
 | succ i=>
  rw[List.take_add_one,List.getElem?_eq_getElem (by omega:i < b.length)];simp only[Option.toList_some,Nat.succ_sub_one,Nat.zero_lt_succ,decide_true,Bool.true_and,Nat.add_sub_cancel];rw[List.getElem?_eq_getElem (by omega:i < b.length)];simp only[Option.elim_some];rw[Bool.eq_iff_iff,List.isSuffixOf_iff_suffix,beq_iff_eq];constructor
  .rintro ⟨t,ht⟩;have:=(List.append_inj' ht rfl).2;simpa using this.symm
  intro h;rw[h];exact ⟨_,rfl⟩
theorem QYa{R:Type}(c:UInt8)(r:Nat->R):∀(l:List UInt8) (n:Nat),zFa (fun i x=>if x==c then some (r i) else none) n l=if l.findIdx (· ==c) < l.length then some (r (n+l.findIdx (· ==c))) else none
 | [],n=>rfl
 | x::l,n=>by
  unfold zFa;rw[List.findIdx_cons];cases hx:x==c with
  | true=>simp
  | false=>
   simp only[Bool.false_eq_true,if_false,cond_false,List.length_cons];rw[QYa c r l (n+1)];by_cases h:l.findIdx (· ==c) < l.length
   .rw[if_pos h,if_pos (by omega),show n+1+l.findIdx (· ==c)=n+(l.findIdx (· ==c)+1) by omega]
   rw[if_neg h,if_neg (by omega)]
theorem JTa(b:List UInt8)(hb:b.length<=1048576):QQa b=some ((yea b).1,((yea b).2:Int)):=by
 unfold QQa;rw[zVa b (fun i x=>if x==10 then some (chop (b.take i),((i+1:Nat):Int)) else none) (.inl ()) .inr]
 .rw[QYa];unfold yea;rw[show b.findIdx (· ==10)=eol b from rfl];by_cases h:eol b < b.length
  .rw[if_pos h,if_pos h];simp
  rw[if_neg h,if_neg h];rfl
 .unfold jLa;rw[zSa];rfl
 intro i c hc;have hi:=zXa hc;unfold jLa;rw[kza hc,zMa hc];simp only[cond_true,Option.bind_some];rw[ZSa c 10 (by decide)];cases h10:c==10 with
 | false=>
  simp only[bne,h10,Bool.not_false,cond_true,Bool.false_eq_true,if_false,Option.elim_none];rw[sc i (by omega)]
 | true=>
  simp only[bne,h10,Bool.not_true,cond_false,if_true,Option.elim_some];have hch:chop (b.take i)=if (decide (0 < i) && (b[i - 1]?).elim false (· ==13)) then b.take (i - 1) else b.take i:=by
   unfold chop;rw[ykb hi];split
   .rw[List.length_take,Nat.min_eq_left (by omega),List.take_take,Nat.min_eq_left (by omega)]
   rfl
  cases i with
  | zero=>
   rw[hch];rfl
  | succ i=>
   have e1:decide ((0:Int) < ((i+1:Nat):Int))=true:=by simp
   have e2:w64 (((i+1:Nat):Int) - 1)=((i:Nat):Int):=by rw[show (((i+1:Nat):Int) - 1)=((i:Nat):Int) by omega,j3a _ (by omega)]
   rw[e1,e2,wsa,List.getElem?_eq_getElem (by omega:i < b.length)];simp only[cond_true,Option.bind_some];rw[qNa _ 13 (by decide),jZa (by omega),jZa (by omega),hch];simp only[Nat.add_sub_cancel,List.getElem?_eq_getElem (by omega:i < b.length),Option.elim_some,Nat.zero_lt_succ,decide_true,Bool.true_and];rw[sc (i+1) (by omega)];cases b[i]==13 <;> rfl
theorem Wza{b:List UInt8}(h:b≠ []):1<=(yea b).2/\(yea b).2<=b.length/\(yea b).1.length<=b.length:=by
 have:=List.length_pos_iff.2 h;unfold yea;split
 .refine ⟨by simp,by simp;omega,?_⟩;unfold chop;split <;> simp <;> omega
 exact ⟨this,Nat.le_refl _,Nat.le_refl _⟩
def v6a(l:List UInt8):List UInt8:=(l.reverse.dropWhile zPa).reverse
theorem zCb:(fun x=>([32,9]:List UInt8).contains x)=zPa:=by
 funext x;simp[zPa,List.contains,List.elem];cases h1:x==32 <;> cases h2:x==9 <;> simp_all
theorem Voa(s:Str)(hs:s.length<=9223372036854775807):qqa s [32,9]=some (v6a s):=by
 unfold qqa Lib.trimRightS v6a;rw[if_pos ⟨hs,by decide,rfl⟩,zCb]
theorem YJa(c:UInt8):∀b:List UInt8,Lib.index b [c]=if b.findIdx (· ==c) < b.length then ((b.findIdx (· ==c):Nat):Int) else -1
 | []=>rfl
 | x::b=>by
  have ih:=YJa c b;unfold Lib.index;rw[List.findIdx_cons,ih];have hp:([c]:List UInt8).isPrefixOf (x::b)=(x==c):=by
   simp only[List.isPrefixOf,Bool.and_true];rw[Bool.eq_iff_iff,beq_iff_eq,beq_iff_eq];exact eq_comm
  rw[hp];cases hx:x==c with
  | true=>simp
  | false=>
   simp only[Bool.false_eq_true,if_false,cond_false,List.length_cons];by_cases h:b.findIdx (· ==c) < b.length
   .rw[if_pos h,if_neg (by simp),if_pos (by omega)];simp
   rw[if_neg h,if_pos (show ((-1:Int)== -1)=true from rfl),if_neg (by omega)]
def colI(s:Str):Nat:=s.findIdx (· ==58)
def colP(s:Str):Str × Str × Bool:=if colI s < s.length then (v6a (s.take (colI s)),s.drop (colI s+1),fnP (v6a (s.take (colI s)))) else (v6a s,[],false)
theorem jsa(s:Str):(v6a s).length<=s.length:=by
 unfold v6a;rw[List.length_reverse];have:=(List.dropWhile_sublist zPa (l:=s.reverse)).length_le;simpa using this
theorem ylb(s:Str):Lib.cut s [58]=if colI s < s.length then (s.take (colI s),s.drop (colI s+1),true) else (s,[],false):=by
 unfold Lib.cut;rw[YJa,show s.findIdx (· ==58)=colI s from rfl];by_cases h:colI s < s.length
 .rw[if_pos h,if_pos h,if_pos (by omega)];simp
 rw[if_neg h,if_neg h,if_neg (by omega)]
theorem Vza(s:Str)(hs:s.length<=1048576):vZa s=some (⟨(colP s).1,(colP s).2.1⟩,(colP s).2.2):=by
 unfold vZa qza;rw[if_pos (by omega)];simp only[Option.bind_some];rw[ylb];unfold colP;by_cases h:colI s < s.length
 .rw[if_pos h,if_pos h];dsimp only;rw[Voa _ (by simp;omega)];simp only[Option.bind_some,cond_true];rw[Kca _ (by have:=jsa (s.take (colI s));simp at this;omega)];rfl
 rw[if_neg h,if_neg h];dsimp only;rw[Voa _ (by omega)];rfl
theorem ymb(n:Str)(hn:n.length<=1048576):(jQa ⟨n,[]⟩==0)=fnP n:=by
 have h1:=Kca n hn;unfold woa at h1;rw[yWa n [] hn (by simp)]at h1;simp only[Option.bind_some,kga,Option.some.injEq]at h1;rw[<-h1];show (jQa ⟨n,[]⟩==0)= !(jQa ⟨n,[]⟩ !=0);simp[bne]
theorem YKa(l:Str)(x:UInt8):v6a (l++ [x])=if zPa x then v6a l else l++ [x]:=by
 unfold v6a;rw[List.reverse_append,List.reverse_cons,List.reverse_nil,List.nil_append,List.singleton_append,List.dropWhile_cons];split
 .rfl
 simp
theorem vOb(s:Str)(hs:s.length<=1048576)(i:Nat)(hi:i<=s.length):∃k:Nat,iter (jna s) (i:Int)=some (k:Int)/\k<=i/\s.take k=v6a (s.take i):=by
 obtain ⟨r,h1,k,h2,h3,h4⟩:=VUa (body:=jna s) (fun n=>∃m:Nat,n=(m:Int)/\m<=i/\v6a (s.take m)=v6a (s.take i)) (fun n=>n.toNat) (fun _ r=>∃k:Nat,r=(k:Int)/\k<=i/\s.take k=v6a (s.take i)) (by
  rintro _ ⟨m,rfl,hm,he⟩;cases m with
  | zero=>exact .inl ⟨0,rfl,0,rfl,Nat.zero_le _,he⟩
  | succ m=>
   have hml:m < s.length:=by omega
   have e1:decide ((0:Int) < ((m+1:Nat):Int))=true:=by simp
   have e2:w64 (((m+1:Nat):Int) - 1)=((m:Nat):Int):=by rw[show (((m+1:Nat):Int) - 1)=((m:Nat):Int) by omega,j3a _ (by omega)]
   have hb:jna s ((m+1:Nat):Int)=some (bif zPa s[m] then .cont (m:Int) else .out ((m+1:Nat):Int)):=by
    unfold jna;rw[e1,e2,wsa,List.getElem?_eq_getElem hml];simp only[cond_true,Option.bind_some,yla];cases zPa s[m] <;> rfl
   have ht:s.take (m+1)=s.take m++ [s[m]]:=by rw[List.take_add_one,List.getElem?_eq_getElem hml];rfl
   rw[ht,YKa]at he;rw[hb];cases hx:zPa s[m] with
   | true=>
    rw[hx,if_pos rfl]at he;exact .inr ⟨(m:Int),rfl,⟨m,rfl,by omega,he⟩,by simp,fun _ h=>h⟩
   | false=>
    rw[hx,if_neg (by simp)]at he;exact .inl ⟨((m+1:Nat):Int),rfl,m+1,rfl,hm,by rw[ht];exact he⟩) (i:Int) ⟨i,rfl,Nat.le_refl _,rfl⟩
 subst h2;exact ⟨k,h1,h3,h4⟩
theorem YLa(s:Str)(hs:s.length<=1048576):kNb s=some (bif (colP s).2.2 then ((colP s).1,(colP s).2.1) else ([],[])):=by
 unfold kNb;rw[zVa s (fun i x=>if x==58 then some (bif fnP (v6a (s.take i)) then (v6a (s.take i),s.drop (i+1)) else (([]:Str),([]:Str))) else none) (.inl ()) .inr]
 .rw[QYa];unfold colP;rw[show s.findIdx (· ==58)=colI s from rfl];by_cases h:colI s < s.length
  .rw[if_pos h,if_pos h];simp only[Nat.zero_add,Option.bind_some,Option.elim_some,Sum.elim_inr]
  rw[if_neg h,if_neg h];rfl
 .unfold QRa;rw[zSa];rfl
 intro i c hc;have hi:=zXa hc;unfold QRa;rw[kza hc,zMa hc];simp only[cond_true,Option.bind_some];rw[ZSa c 58 (by decide)];cases h10:c==58 with
 | false=>
  simp only[bne,h10,Bool.not_false,cond_true,Bool.false_eq_true,if_false,Option.elim_none];rw[sc i (by omega)]
 | true=>
  simp only[bne,h10,Bool.not_true,cond_false,if_true,Option.elim_some];obtain ⟨k,h1,h2,h3⟩:=vOb s hs i (by omega);rw[h1];simp only[Option.bind_some];rw[jZa (by omega),h3];simp only[Option.bind_some];rw[Kba ⟨v6a (s.take i),[]⟩ (by have:=jsa (s.take i);simp at this ⊢;omega) (by simp)];simp only[Option.bind_some];rw[ymb _ (by have:=jsa (s.take i);simp at this ⊢;omega),sc i (by omega),ySa (by omega)];cases fnP (v6a (s.take i)) <;> rfl
theorem ynb{s:Str}(h:(colP s).2.2=true):(colP s).1≠ []:=by
 unfold colP at h ⊢;split
 .rename_i hc;rw[if_pos hc]at h;intro he;have h:fnP (v6a (s.take (colI s)))=true:=h;have he:v6a (s.take (colI s))=[]:=he;rw[he]at h;cases h
 rename_i hc;rw[if_neg hc]at h;cases h
theorem colP_len(s:Str):(colP s).1.length<=s.length/\(colP s).2.1.length<=s.length:=by
 unfold colP;split
 .refine ⟨?_,by simp⟩;have:=jsa (s.take (colI s));simp at this ⊢;omega
 exact ⟨jsa s,by simp⟩
def KKa(l:List UInt8):List UInt8:=l.dropWhile zPa
theorem YMa(x:UInt8)(l:Str):v6a (x::l)=if zPa x=true/\v6a l=[] then [] else x::v6a l:=by
 unfold v6a;rw[List.reverse_cons,List.dropWhile_append];cases h:(l.reverse.dropWhile zPa).isEmpty with
 | true=>
  have h0:l.reverse.dropWhile zPa=[]:=List.isEmpty_iff.1 h;rw[h0,List.dropWhile_cons];cases hx:zPa x <;> simp
 | false=>
  have h0:l.reverse.dropWhile zPa≠ []:=fun e=>by rw[e]at h;cases h
  simp[h0]
theorem zDb:∀l:Str,KKa (v6a l)=v6a (KKa l)
 | []=>rfl
 | x::l=>by
  have ih:=zDb l;rw[YMa];cases hx:zPa x with
  | false=>
   rw[if_neg (by simp)];unfold KKa;rw[List.dropWhile_cons_of_neg (by simp[hx]),List.dropWhile_cons_of_neg (by simp[hx]),YMa,if_neg (by simp[hx])]
  | true=>
   rw[show KKa (x::l)=KKa l by unfold KKa;rw[List.dropWhile_cons_of_pos hx],<-ih];split
   .rename_i h;rw[h.2]
   unfold KKa;rw[List.dropWhile_cons_of_pos hx]
def j1a(v:Str):Str:=v6a (KKa (v.map kra))
theorem YNa(v:Str):(j1a v).length<=v.length:=by
 unfold j1a KKa;have h1:=jsa ((v.map kra).dropWhile zPa);have h2:=(List.dropWhile_sublist zPa (l:=v.map kra)).length_le;simp at h2;omega
theorem Trim_eq(v:Str)(hs:v.length<=1048576):((z0a v).bind fun v48=>wSa v48 [32,9])=some (j1a v):=by
 unfold z0a wSa Lib.trimS Lib.trimLeftS Lib.trimRightS;rw[if_pos (by omega)];simp only[Option.bind_some];rw[if_pos ⟨by simp;omega,by decide,rfl⟩,zCb];show some (KKa (v6a (v.map kra)))=_;rw[zDb];rfl
theorem cleaned1(s:Str)(hs:s.length<=1048576):iter (wUa s) (0,([]:List UInt8))=some (s.map kra):=by
 have h:=jpa s (fun i a=>(i,a)) (fun (a:List UInt8) c=>a++ [kra c]) id (fun i a=>a.length=i) (body:=wUa s) (fun a ha=>by
  unfold wUa;rw[zSa];rfl) (fun i c a hc ha=>by
  have hi:=zXa hc;refine ⟨?_,by simp[ha]⟩;unfold wUa;rw[kza hc,zMa hc];simp only[cond_true,Option.bind_some];rw[qNa c 0 (by decide),qNa c 13 (by decide)];have e:(bif c==0 then some true else some (c==13):Option Bool)=some (c==0 || c==13):=by cases c==0 <;> rfl
  rw[e];simp only[Option.bind_some];have e2:(bif (c==0 || c==13) then some (32:UInt8) else some c)=some (kra c):=by
   unfold kra;by_cases h0:c=0
   .subst h0;rfl
   by_cases h1:c=13
   .subst h1;rfl
   rw[beq_eq_false_iff_ne.2 h0,beq_eq_false_iff_ne.2 h1,if_neg (by simp[h0,h1])];rfl
  rw[e2];simp only[Option.bind_some];rw[kna (by simp;omega),sc i (by omega)];rfl) [] rfl
 rw[h.1];have:∀(l:Str) (a:List UInt8),l.foldl (fun a c=>a++ [kra c]) a=a++l.map kra:=by
  intro l;induction l with
  | nil=>intro a;simp
  | cons x l ih=>intro a;rw[List.foldl_cons,ih];simp
 rw[this];rfl
theorem qOb:∀(l:Str),l.length<=1048576->iter (yQa) l=some (KKa l)
 | [],_=>zGa rfl
 | x::l,h=>by
  have hb:yQa (x::l)=some (bif zPa x then .cont l else .out (x::l)):=by
   unfold yQa;rw[show decide ((0:Int) < ((x::l).length:Int))=true by simp,show idx (x::l) 0=some x from rfl];simp only[cond_true,Option.bind_some,yla];rw[show ((1:Int))=((1:Nat):Int) from rfl,ySa (by simp)];cases zPa x <;> rfl
  cases hx:zPa x with
  | true=>
   rw[hx]at hb;rw[zQa hb,qOb l (by simp at h;omega)];unfold KKa;rw[List.dropWhile_cons_of_pos hx]
  | false=>
   rw[hx]at hb;rw[zGa hb];unfold KKa;rw[List.dropWhile_cons_of_neg (by simp[hx])]
theorem cleaned3(n:Nat):∀(l:Str),l.length=n->l.length<=1048576->iter (yRa) l=some (v6a l):=by
 induction n with
 | zero=>
  intro l hn _;have:=List.eq_nil_of_length_eq_zero hn;subst this;exact zGa rfl
 | succ n ih=>
  intro l hn h;obtain ⟨p,x,rfl⟩:∃p x,l=p++ [x]:=⟨l.dropLast,l.getLast (by rintro rfl;simp at hn),(List.dropLast_concat_getLast _).symm⟩;have hp:p.length=n:=by simpa using hn
  have hb:yRa (p++ [x])=some (bif zPa x then .cont p else .out (p++ [x])):=by
   unfold yRa;have e2:w64 (((p++ [x]).length:Int) - 1)=(p.length:Int):=by
    rw[show (((p++ [x]).length:Int) - 1)=(p.length:Int) by simp,j3a _ (by omega)]
   rw[show decide ((0:Int) < ((p++ [x]).length:Int))=true by simp,e2,kOb p x []];simp only[cond_true,Option.bind_some,yla];rw[jZa (by simp)];simp only[List.take_left];cases zPa x <;> rfl
  rw[YKa];cases hx:zPa x with
  | true=>
   rw[hx]at hb;rw[zQa hb,ih p hp (by omega),if_pos rfl]
  | false=>
   rw[hx]at hb;rw[zGa hb,if_neg (by simp)]
theorem zEb(s:Str)(hs:s.length<=1048576):Wpa s=some (j1a s):=by
 unfold Wpa;rw[cleaned1 s hs];simp only[Option.bind_some];have h2:(KKa (s.map kra)).length<=s.length:=by
  unfold KKa;have:=(List.dropWhile_sublist zPa (l:=s.map kra)).length_le;simpa using this
 rw[qOb _ (by simpa using hs)];simp only[Option.bind_some];rw[cleaned3 _ _ rfl (by omega)];rfl
def jRa:Nat->List UInt8->List UInt8
 | 0,_=>[]
 | _+1,[]=>[]
 | n+1,c::r=>if c=13 then 13::10::jRa n (if r.head? =some 10 then r.drop 1 else r) else if c=10 then 13::10::jRa n r else c::jRa n r
theorem WAa:∀(n:Nat) (l:List UInt8),(jRa n l).length<=2 * n
 | 0,_=>by simp[jRa]
 | n+1,[]=>by simp[jRa]
 | n+1,c::r=>by
  unfold jRa;split
  .have:=WAa n (if r.head? =some 10 then r.drop 1 else r);simp only[List.length_cons];omega
  have:=WAa n r;split <;> simp only[List.length_cons] <;> omega
theorem QZa:∀(n m:Nat) (l:List UInt8),l.length<=n->l.length<=m->jRa n l=jRa m l
 | 0,m,l,h,_=>by
  obtain rfl:=List.eq_nil_of_length_eq_zero (by omega:l.length=0);cases m <;> rfl
 | n+1,m,[],_,_=>by cases m <;> rfl
 | n+1,0,c::r,_,h=>by simp at h
 | n+1,m+1,c::r,h1,h2=>by
  simp only[List.length_cons]at h1 h2;unfold jRa;have hle:(if r.head? =some 10 then r.drop 1 else r).length<=r.length:=by
   split
   .simp
   exact Nat.le_refl _
  have e1:=QZa n m (if r.head? =some 10 then r.drop 1 else r) (by omega) (by omega);have e2:=QZa n m r (by omega) (by omega);rw[e1,e2]
theorem zFb(b:List UInt8)(hb:b.length<=1048576){body:Int × List UInt8->Option (Step (Int × List UInt8) (List UInt8))}
 (h0:∀a,body ((b.length:Int),a)=some (.out a))
 (h1:∀(i:Nat) c a,b[i]? =some c->a.length<=3000000->body ((i:Int),a)=some (.cont (if c=13 then (((if b[i+1]? =some 10 then i+2 else i+1:Nat):Int),a++ [13,10]) else if c=10 then (((i+1:Nat):Int),a++ [13,10]) else (((i+1:Nat):Int),a++ [c])))):
 ∀(n i:Nat) (a:List UInt8),i+n=b.length->a.length<=2 * i->iter body ((i:Int),a)=some (a++jRa n (b.drop i)):=by
 intro n;induction n using Nat.strongRecOn with
 | _ n ih=>
  intro i a hn ha;cases n with
  | zero=>
   obtain rfl:i=b.length:=by omega
   rw[zGa (h0 a)];simp[jRa]
  | succ n=>
   have hi:i < b.length:=by omega
   have hd:b.drop i=b[i]::b.drop (i+1):=List.drop_eq_getElem_cons hi;have hs:=h1 i b[i] a (List.getElem?_eq_getElem hi) (by omega);rw[zQa hs,hd];unfold jRa;by_cases h13:b[i]=13
   .rw[if_pos h13,if_pos h13];have hh:(b.drop (i+1)).head? =b[i+1]? :=by rw[List.head?_drop]
    rw[hh];by_cases h10:b[i+1]? =some 10
    .rw[if_pos h10,if_pos h10];have hi1:=(List.getElem?_eq_some_iff.1 h10).1;have:=ih (n - 1) (by omega) (i+2) (a++ [13,10]) (by omega) (by simp;omega);rw[this,List.drop_drop,QZa (n - 1) n _ (by simp;omega) (by simp;omega)];simp
    rw[if_neg h10,if_neg h10];have:=ih n (by omega) (i+1) (a++ [13,10]) (by omega) (by simp;omega);rw[this];simp
   rw[if_neg h13,if_neg h13];by_cases h10:b[i]=10
   .rw[if_pos h10,if_pos h10,ih n (by omega) (i+1) (a++ [13,10]) (by omega) (by simp;omega)];simp
   rw[if_neg h10,if_neg h10,ih n (by omega) (i+1) (a++ [b[i]]) (by omega) (by simp;omega)];simp
theorem y8a(c k:UInt8):(c==k)=decide (c=k):=by rw[Bool.eq_iff_iff];simp
theorem yob(b:List UInt8)(i:Nat)(hb:b.length<=1048576)(hi:i < b.length):(bif decide (w64 ((i:Int)+1) < (b.length:Int)) then (idx b (w64 ((i:Int)+1))).bind fun v11=>some ((v11.toNat:Int)==10) else some false)=some (decide (b[i+1]? =some 10)):=by
 rw[sc i (by omega)];by_cases h:i+1 < b.length
 .rw[decide_eq_true (by omega),wsa,List.getElem?_eq_getElem h];simp only[cond_true,Option.bind_some];rw[qNa _ 10 (by decide),y8a]
  congr 1
  rw[Bool.eq_iff_iff];simp
 rw[decide_eq_false (by omega),List.getElem?_eq_none (by omega)];rfl
theorem VAa(b:List UInt8)(hb:b.length<=1048576):v0a b=some (jRa b.length b):=by
 unfold v0a;have:=zFb b hb (body:=qMa b) (fun a=>by unfold qMa;rw[zSa];rfl) (fun i c a hc ha=>by
  have hi:=zXa hc;unfold qMa;dsimp only;rw[kza hc,zMa hc,yob b i hb hi];simp only[cond_true,Option.bind_some];rw[qNa c 13 (by decide),qNa c 10 (by decide),y8a,y8a];rw[kna (show a.length+([13,10]:List UInt8).length<=_ by simp;omega),kna (show a.length+ [c].length<=_ by simp;omega)];by_cases h13:c=13
  .rw[if_pos h13,decide_eq_true h13];simp only[cond_true,Option.bind_some];by_cases h10:b[i+1]? =some 10
   .rw[if_pos h10,decide_eq_true h10];simp only[cond_true,Option.bind_some];rw[sc i (by omega),sc (i+1) (by omega)]
   rw[if_neg h10,decide_eq_false h10];simp only[cond_false,Option.bind_some];rw[sc i (by omega)]
  rw[if_neg h13,decide_eq_false h13];simp only[cond_false,Option.bind_some];by_cases h10:c=10
  .rw[if_pos h10,decide_eq_true h10];simp only[cond_true,Option.bind_some];rw[sc i (by omega)]
  rw[if_neg h10,decide_eq_false h10];simp only[cond_false,Option.bind_some];rw[sc i (by omega)]) b.length 0 [] (by omega) (by simp)
 rw[show ((0:Int))=((0:Nat):Int) from rfl,this];rfl
theorem ypb(b:List UInt8)(hb:b.length<=1048576)(i:Nat)(hi:i<=b.length):iter (vya b) ((i:Int),([]:List UInt8))=some (jRa (b.drop i).length (b.drop i)):=by
 have:=zFb b hb (body:=vya b) (fun a=>by unfold vya;rw[zSa];rfl) (fun i c a hc ha=>by
  have hi:=zXa hc;unfold vya;dsimp only;rw[kza hc,zMa hc,yob b i hb hi];simp only[cond_true,Option.bind_some];rw[qNa c 13 (by decide),qNa c 10 (by decide),y8a,y8a];rw[kna (show a.length+([13,10]:List UInt8).length<=_ by simp;omega),kna (show a.length+ [c].length<=_ by simp;omega)];by_cases h13:c=13
  .rw[if_pos h13,decide_eq_true h13];simp only[cond_true,Option.bind_some];by_cases h10:b[i+1]? =some 10
   .rw[if_pos h10,decide_eq_true h10];simp only[cond_true,Option.bind_some];rw[sc i (by omega),sc (i+1) (by omega)]
   rw[if_neg h10,decide_eq_false h10];simp only[cond_false,Option.bind_some];rw[sc i (by omega)]
  rw[if_neg h13,decide_eq_false h13];simp only[cond_false,Option.bind_some];by_cases h10:c=10
  .rw[if_pos h10,decide_eq_true h10];simp only[cond_true,cond_false,Option.bind_some];rw[sc i (by omega)]
  rw[if_neg h10,decide_eq_false h10];simp only[cond_false,Option.bind_some];rw[sc i (by omega)]) (b.drop i).length i [] (by simp;omega) (by simp)
 rw[this];rfl
def k0b{S R:Type}(step:S->S ⊕ R)(dflt:R):Nat->S->R
 | 0,_=>dflt
 | n+1,s=>match step s with | .inl s' =>k0b step dflt n s' | .inr r=>r
theorem Qga{S R A B:Type}(enc:S->A)(out:R->B)(step:S->S ⊕ R)(dflt:R)(Inv:S->Prop)(m:S->Nat){body:A->Option (Step A B)}
 (h:∀s,Inv s->body (enc s)=some (Sum.elim (fun s' =>.cont (enc s')) (fun r=>.out (out r)) (step s))/\∀s',step s=.inl s' ->Inv s' /\m s' < m s):
 ∀(n:Nat) (s:S),Inv s->m s < n->iter body (enc s)=some (out (k0b step dflt n s)):=by
 intro n;induction n with
 | zero=>intro s _ h2;omega
 | succ n ih=>
  intro s hs hm;obtain ⟨h1,h2⟩:=h s hs;unfold k0b;cases hst:step s with
  | inl s' =>
   rw[hst]at h1;obtain ⟨h3,h4⟩:=h2 s' hst;rw[zQa h1];exact ih s' h3 (by omega)
  | inr r=>
   rw[hst]at h1;exact zGa h1
theorem zGb{S R:Type}(step:S->S ⊕ R)(dflt:R)(Inv:S->Prop)(Post:R->Prop)(m:S->Nat)
 (h:∀s,Inv s->(∀s',step s=.inl s' ->Inv s' /\m s' < m s)/\∀r,step s=.inr r->Post r):∀(n:Nat) (s:S),Inv s->m s < n->Post (k0b step dflt n s):=by
 intro n;induction n with
 | zero=>intro s _ h2;omega
 | succ n ih=>
  intro s hs hm;obtain ⟨h1,h2⟩:=h s hs;unfold k0b;cases hst:step s with
  | inl s' =>exact ih s' (h1 s' hst).1 (by have:=(h1 s' hst).2;omega)
  | inr r=>exact h2 r hst
def KLa(l:List zia)(t:Str):List zia:=match l[l.length - 1]? with
 | some f=>l.set (l.length - 1) ⟨f.Name,f.Value++t⟩
 | none=>l
def wva(b:List UInt8)(s:Nat × List zia):(Nat × List zia) ⊕ (Nat × List zia):=
 if s.1 < b.length then
  match (yea (b.drop s.1)).1 with
  | []=>.inr (s.1+(yea (b.drop s.1)).2,s.2)
  | c::_=>if zPa c=true/\s.2≠ [] then .inl (s.1+(yea (b.drop s.1)).2,KLa s.2 (yea (b.drop s.1)).1)
   else if (colP (yea (b.drop s.1)).1).2.2=true then .inl (s.1+(yea (b.drop s.1)).2,s.2++ [⟨(colP (yea (b.drop s.1)).1).1,(colP (yea (b.drop s.1)).1).2.1⟩])
   else .inr s
 else .inr s
def HInv(b:List UInt8)(s:Nat × List zia):Prop:=s.1<=b.length/\s.2.length<=s.1/\∀f∈s.2,f.Name.length<=s.1/\f.Value.length<=s.1
theorem WBa(b:List UInt8):(yea b).1.length<=(yea b).2:=by
 unfold yea;split
 .unfold chop;split <;> simp <;> omega
 exact Nat.le_refl _
theorem WCa{l:List zia}(h:l≠ []):∃f,l[l.length - 1]? =some f/\f∈l:=by
 have:=List.length_pos_iff.2 h;exact ⟨l[l.length - 1]'(by omega),List.getElem?_eq_getElem (by omega),List.getElem_mem _⟩
theorem WDa{b:List UInt8}{s:Nat × List zia}(h:HInv b s):(∀s',wva b s=.inl s' ->HInv b s' /\b.length - s'.1 < b.length - s.1)/\∀r,wva b s=.inr r->HInv b r:=by
 obtain ⟨h1,h2,h3⟩:=h;unfold wva;by_cases hl:s.1 < b.length
 .rw[if_pos hl];have hne:b.drop s.1≠ []:=by
   intro e;have:=congrArg List.length e;simp at this;omega
  obtain ⟨p1,p2,p3⟩:=Wza hne;have p4:=WBa (b.drop s.1);rw[List.length_drop]at p2;generalize yea (b.drop s.1)=L at p1 p2 p3 p4;obtain ⟨t,n⟩:=L;dsimp only at p1 p2 p3 p4 ⊢;cases t with
  | nil=>
   refine ⟨fun s' e=>(by cases e),fun r e=>?_⟩;cases e;exact ⟨by show s.1+n<=_;omega,by show s.2.length<=s.1+n;omega,fun f hf=>by have:=h3 f hf;show _<=s.1+n/\_<=s.1+n;omega⟩
  | cons c t=>
   dsimp only;by_cases hb:zPa c=true/\s.2≠ []
   .rw[if_pos hb];refine ⟨fun s' e=>?_,fun r e=>by cases e⟩;cases e;obtain ⟨f,hf,hm⟩:=WCa hb.2;have hset:KLa s.2 (c::t)=s.2.set (s.2.length - 1) ⟨f.Name,f.Value++(c::t)⟩:=by unfold KLa;rw[hf]
    refine ⟨⟨by show s.1+n<=_;omega,?_,fun g hg=>?_⟩,by show b.length - (s.1+n) < _;omega⟩
    .show (KLa s.2 (c::t)).length<=s.1+n;rw[hset,List.length_set];omega
    have hg:g∈KLa s.2 (c::t):=hg;rw[hset]at hg;show _<=s.1+n/\_<=s.1+n;rcases List.mem_or_eq_of_mem_set hg with h4 | rfl
    .have:=h3 g h4;omega
    have:=h3 f hm;simp only[List.length_append];omega
   rw[if_neg hb];by_cases hc:(colP (c::t)).2.2=true
   .rw[if_pos hc];refine ⟨fun s' e=>?_,fun r e=>by cases e⟩;cases e;obtain ⟨q1,q2⟩:=colP_len (c::t);refine ⟨⟨by show s.1+n<=_;omega,by simp;omega,fun g hg=>?_⟩,by show b.length - (s.1+n) < _;omega⟩;rcases List.mem_append.1 hg with h4 | h4
    .have:=h3 g h4;show _<=s.1+n/\_<=s.1+n;omega
    rw[List.mem_singleton]at h4;subst h4;show _<=s.1+n/\_<=s.1+n;dsimp only;omega
   rw[if_neg hc];exact ⟨fun s' e=>(by cases e),fun r e=>(by cases e;exact ⟨h1,h2,h3⟩)⟩
 rw[if_neg hl];exact ⟨fun s' e=>(by cases e),fun r e=>(by cases e;exact ⟨h1,h2,h3⟩)⟩
def encH(s:Nat × List zia):Int × List zia:=((s.1:Int),s.2)
theorem qPb{l:List zia}(h:l≠ [])(hl:l.length<=1048576):w64 ((l.length:Int) - 1)=((l.length - 1:Nat):Int):=by
 have:=List.length_pos_iff.2 h;rw[show ((l.length:Int) - 1)=((l.length - 1:Nat):Int) by omega,j3a _ (by omega)]
theorem yqb(b:List UInt8)(hb:b.length<=12000)(s:Nat × List zia)(h:HInv b s):vwa b (encH s)=some (Sum.elim (fun s' =>.cont (encH s')) (fun r=>.out (encH r)) (wva b s)):=by
 obtain ⟨h1,h2,h3⟩:=h;unfold vwa wva encH;by_cases hl:s.1 < b.length
 .rw[if_pos hl,decide_eq_true (by omega)];have hne:b.drop s.1≠ []:=by
   intro e;have:=congrArg List.length e;simp at this;omega
  obtain ⟨p1,p2,p3⟩:=Wza hne;have p4:=WBa (b.drop s.1);have hline:=Yia (b.drop s.1) (by simp;omega);rw[List.length_drop]at p2 p3;simp only[cond_true];rw[ySa (by omega)];simp only[Option.bind_some];rw[hline];generalize yea (b.drop s.1)=L at p1 p2 p3 p4;obtain ⟨t,n⟩:=L;dsimp only at p1 p2 p3 p4 ⊢;simp only[Option.bind_some];rw[w4b _ _ (by omega)];cases t with
  | nil=>rfl
  | cons c t=>
   rw[show ((c::t)==([]:Str))=false from rfl,show idx (c::t) 0=some c from rfl];simp only[cond_false,Option.bind_some,y6a];have e0:(bif zPa c then some (decide ((0:Int) < (s.2.length:Int))) else some false)=some (decide (zPa c=true/\s.2≠ [])):=by
    cases zPa c with
    | false=>rfl
    | true=>
     simp only[cond_true,Option.some.injEq];rw[Bool.eq_iff_iff];simp[List.length_pos_iff]
   rw[e0];simp only[Option.bind_some];by_cases hbl:zPa c=true/\s.2≠ []
   .rw[if_pos hbl,decide_eq_true hbl];obtain ⟨f,hf,hm⟩:=WCa hbl.2;have hv:=h3 f hm;simp only[cond_true];rw[qPb hbl.2 (by omega),wsa,hf];simp only[Option.bind_some];rw[joa (by omega)];simp only[Option.bind_some];unfold KLa;rw[hf];rfl
   rw[if_neg hbl,decide_eq_false hbl];simp only[cond_false];rw[Vza _ (by omega)];simp only[Option.bind_some];cases hc:(colP (c::t)).2.2 with
   | false=>rfl
   | true=>
    rw[if_pos rfl];simp only[Bool.not_true,cond_false];rw[kna (by simp;omega)];rfl
 rw[if_neg hl,decide_eq_false (by omega)];rfl
theorem ref_body(b:List UInt8)(hb:b.length<=12000)(s:Nat × List zia)(h:HInv b s):wFa b (encH s)=some (Sum.elim (fun s' =>.cont (encH s')) (fun r=>.out (encH r)) (wva b s)):=by
 obtain ⟨h1,h2,h3⟩:=h;unfold wFa wva encH;by_cases hl:s.1 < b.length
 .rw[if_pos hl,decide_eq_true (by omega)];have hne:b.drop s.1≠ []:=by
   intro e;have:=congrArg List.length e;simp at this;omega
  obtain ⟨p1,p2,p3⟩:=Wza hne;have p4:=WBa (b.drop s.1);have hline:=JTa (b.drop s.1) (by simp;omega);rw[List.length_drop]at p2 p3;simp only[cond_true];rw[ySa (by omega)];simp only[Option.bind_some];rw[hline];generalize yea (b.drop s.1)=L at p1 p2 p3 p4;obtain ⟨t,n⟩:=L;dsimp only at p1 p2 p3 p4 ⊢;simp only[Option.bind_some];rw[w4b _ _ (by omega)];cases t with
  | nil=>rfl
  | cons c t=>
   rw[show ((c::t)==([]:Str))=false from rfl,show idx (c::t) 0=some c from rfl];simp only[cond_false,Option.bind_some,yla];by_cases hs:s.2=[]
   .have e1:w64 ((s.2.length:Int) - 1)= -1:=by rw[hs];rfl
    rw[e1,if_neg (fun e=>e.2 hs)];have e0:(bif zPa c then some ((-1:Int),decide ((0:Int)<= -1)) else some (-1,false))=some (-1,false):=by cases zPa c <;> rfl
    rw[e0];simp only[Option.bind_some,cond_false];rw[YLa _ (by omega)];simp only[Option.bind_some];cases hc:(colP (c::t)).2.2 with
    | false=>rfl
    | true=>
     have hn:=ynb hc;rw[if_pos rfl];simp only[cond_true];rw[beq_eq_false_iff_ne.2 hn];simp only[cond_false];rw[kna (by simp;omega)];rfl
   rw[qPb hs (by omega)];have e0:(bif zPa c then some (((s.2.length - 1:Nat):Int),decide ((0:Int)<=((s.2.length - 1:Nat):Int))) else some (((s.2.length - 1:Nat):Int),false))=some (((s.2.length - 1:Nat):Int),zPa c):=by
    cases zPa c with
    | false=>rfl
    | true=>simp only[cond_true];rw[decide_eq_true (by omega)]
   rw[e0];simp only[Option.bind_some];cases hbl:zPa c with
   | true=>
    rw[if_pos ⟨rfl,hs⟩];obtain ⟨f,hf,hm⟩:=WCa hs;have hv:=h3 f hm;simp only[cond_true];rw[wsa,hf];simp only[Option.bind_some];rw[joa (by omega)];simp only[Option.bind_some];unfold KLa;rw[hf];rfl
   | false=>
    rw[if_neg (by simp)];simp only[cond_false];rw[YLa _ (by omega)];simp only[Option.bind_some];cases hc:(colP (c::t)).2.2 with
    | false=>rfl
    | true=>
     have hn:=ynb hc;rw[if_pos rfl];simp only[cond_true];rw[beq_eq_false_iff_ne.2 hn];simp only[cond_false];rw[kna (by simp;omega)];rfl
 rw[if_neg hl,decide_eq_false (by omega)];rfl
def yfa(b:List UInt8):Nat × List zia:=k0b (wva b) (0,[]) (b.length+1) (0,[])
theorem hinv0(b:List UInt8):HInv b (0,[]):=⟨Nat.zero_le _,Nat.le_refl _,fun f hf=>by cases hf⟩
theorem WEa(b:List UInt8):HInv b (yfa b):=zGb (wva b) (0,[]) (HInv b) (HInv b) (fun s=>b.length - s.1) (fun s hs=>WDa hs) _ _ (hinv0 b) (by show b.length - 0 < _;omega)
theorem zHb(b:List UInt8)(hb:b.length<=12000):iter (vwa b) ((0,([]:List zia)))=some (encH (yfa b))/\iter (wFa b) ((0,([]:List zia)))=some (encH (yfa b)):=
 ⟨Qga encH encH (wva b) (0,[]) (HInv b) (fun s=>b.length - s.1) (fun s hs=>⟨yqb b hb s hs,(WDa hs).1⟩) _ (0,[]) (hinv0 b) (by show b.length - 0 < _;omega),
  Qga encH encH (wva b) (0,[]) (HInv b) (fun s=>b.length - s.1) (fun s hs=>⟨ref_body b hb s hs,(WDa hs).1⟩) _ (0,[]) (hinv0 b) (by show b.length - 0 < _;omega)⟩
def v7a(f:zia):zia:=⟨f.Name,j1a f.Value⟩
end Go.Proofs.YtmmjihadplknjaaGreatDoor
