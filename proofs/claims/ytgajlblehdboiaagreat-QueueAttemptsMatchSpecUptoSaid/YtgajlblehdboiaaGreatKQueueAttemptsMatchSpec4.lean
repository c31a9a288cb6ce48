/- Part 4 of the proof of the law QueueAttemptsMatchSpec: what it needs. -/
import Derived.Test.YtgajlblehdboiaaGreatKQueueAttemptsMatchSpec3
import Derived.Laws.RangeAny
import Derived.Lib.ItoaMem
set_option linter.unusedVariables false
set_option linter.unusedSimpArgs false
set_option maxRecDepth 100000
set_option maxHeartbeats 40000000
namespace Go.Proofs.YtgajlblehdboiaaGreat
open Go.RowKit
def q7a(s2:Bool × Int)(j8:Bool):Option (Step (Bool × Int) (Bool ⊕ Bool)):=
 some (.cont (j8,(w64 (s2.2+1))))
def k7a(a0:zba)(s2:Bool × Int):Option (Step (Bool × Int) (Bool ⊕ Bool)):=
 (bif decide (s2.2 < (a0.To.length:Int)) then (idx a0.To s2.2).bind fun v9=>((idx a0.Mail.Envelope.To s2.2).bind fun v12=>(bif (!(z2a [(v9.Recipient.Address==v12.Address),(v9.Recipient.Notify==v12.Notify)])) then some true else (bif (v9.Result !=0) then (bif (v9.Result !=1) then (bif (v9.Result !=3) then some true else (bif v9.Busy then some ((v9.Result !=0)) else some false)) else (bif v9.Busy then some ((v9.Result !=0)) else some false)) else (bif v9.Busy then some ((v9.Result !=0)) else some false))):Option Bool).bind fun (j11:Bool)=>(bif j11 then some (.out (.inr false)) else (bif s2.1 then (q7a s2 true) else (q7a s2 (v9.Result==0)))) else some (.out (.inl s2.1)))
noncomputable def qZa(a0:zba):Option Bool:=
 (bif ((a0.To.length:Int) !=(a0.Mail.Envelope.To.length:Int)) then some false else (iter (k7a a0) ((false,0))).bind (Sum.elim (fun b3=>some b3) (fun b4=>some b4)))
noncomputable def kUa(a0:zna)(s9:Int × Int):Option (Step (Int × Int) (Unit ⊕ zpa)):=
 (bif decide (s9.2 < (a0.Entries.length:Int)) then (idx a0.Entries s9.2).bind fun v15=>(vda v15.Mail).bind fun v17=>(kba v17).bind fun v19=>(bif v19 then (zra v17.Code s9.2).bind fun v22=>some (.out (.inr v22)) else ((bif decide (v15.Id<=s9.1) then some true else some (decide (a0.Next<=v15.Id))):Option Bool).bind fun (j24:Bool)=>(bif j24 then (zra 19 s9.2).bind fun v27=>some (.out (.inr v27)) else ((qKa v15.Since).bind fun v30=>(bif (!v30) then some true else (qKa v15.Due).bind fun v33=>(bif (!v33) then some true else (bif decide (v15.Tries < 0) then some true else some (decide (1000000 < v15.Tries))))):Option Bool).bind fun (j29:Bool)=>(bif j29 then (zra 3 s9.2).bind fun v38=>some (.out (.inr v38)) else (qZa v15).bind fun v40=>(bif (!v40) then (zra 5 s9.2).bind fun v43=>some (.out (.inr v43)) else some (.cont (v15.Id,(w64 (s9.2+1)))))))) else some (.out (.inl (()))))
noncomputable def kRa(a0:zna):Option zpa:=
 (bif decide (20 < (a0.Entries.length:Int)) then (zra 2 ((-1))).bind fun v2=>some v2 else ((bif decide (a0.Next < 0) then some true else some (decide (1000000 < a0.Next))):Option Bool).bind fun (j4:Bool)=>(bif j4 then (zra 3 ((-2))).bind fun v7=>some v7 else (iter (kUa a0) (((-1),0))).bind (Sum.elim (fun b10=>(kqa).bind fun v45=>some v45) (fun b11=>some b11))))
noncomputable def zFa(a0:List zba):Option (List zba):=
 (nilE a0.isEmpty (some ([])) ((app 879609302220 ([]:List zba) a0).bind fun v2=>some v2))
noncomputable def zya(a0:List zda):Option (List zda):=
 (nilE a0.isEmpty (some ([])) ((app 3518437208883 ([]:List zda) a0).bind fun v2=>some v2))
noncomputable def yea(v23:List zba)(s25:Int × Nat × (List zba)):Option (Step (Int × Nat × (List zba)) ((List zba) × Nat)):=
 (bif decide (s25.1 < (v23.length:Int)) then (idx s25.2.2 s25.1).bind fun v29=>(idx s25.2.2 s25.1).bind fun v31=>(kGa v31.Mail).bind fun v33=>(V7a s25.2.1 s25.1).bind fun v35=>(idx s25.2.2 s25.1).bind fun v37=>(zya v37.To).bind fun v39=>(idx s25.2.2 s25.1).bind fun v41=>(kab s25.2.1 s25.1).bind fun v43=>(idx ((List.set s25.2.2 (Int.toNat s25.1) ((zba.mk v41.Id v33 v41.Since v41.Tries v41.Due v41.To)))) s25.1).bind fun v45=>some (.cont ((w64 (s25.1+1)),(s25.2.1+1),(List.set ((List.set s25.2.2 (Int.toNat s25.1) ((zba.mk v41.Id v33 v41.Since v41.Tries v41.Due v41.To)))) (Int.toNat s25.1) ((zba.mk v45.Id v45.Mail v45.Since v45.Tries v45.Due v39))))) else some (.out ((s25.2.2,s25.2.1))))
def wka(a1:ksa)(s49:Int × (List zda)):Option (Step (Int × (List zda)) (List zda)):=
 (bif decide (s49.1 < (a1.Envelope.To.length:Int)) then (idx a1.Envelope.To s49.1).bind fun v53=>(app 3518437208883 s49.2 (([(zda.mk v53 0 false)]:List zda))).bind fun v55=>some (.cont ((w64 (s49.1+1)),v55)) else some (.out s49.2))
noncomputable def ZLa(a0:zna)(a1:ksa)(a2:Int):Option (zna × Int × zpa):=
 (kRa a0).bind fun v1=>(kba v1).bind fun v3=>(bif v3 then some (((zna.mk ([]) 0),0,v1)) else (vda a1).bind fun v6=>(kba v6).bind fun v8=>(bif v8 then (zra v6.Code ((-6))).bind fun v11=>some (((zna.mk ([]) 0),0,v11)) else (qKa a2).bind fun v13=>(bif (!v13) then (zra 3 ((-7))).bind fun v16=>some (((zna.mk ([]) 0),0,v16)) else ((bif ((a0.Entries.length:Int)==20) then some true else some ((a0.Next==1000000))):Option Bool).bind fun (j18:Bool)=>(bif j18 then (zra 2 ((-8))).bind fun v21=>some (((zna.mk ([]) 0),0,v21)) else (zFa a0.Entries).bind fun v23=>(iter (yea v23) ((0,0,v23))).bind fun b26=>(kGa a1).bind fun v47=>(iter (wka a1) ((0,([]:List zda)))).bind fun b50=>(nall b26.2 (List.length b26.1)).bind fun v57=>(app 879609302220 b26.1 [(zba.mk a0.Next v47 a2 0 a2 b50)]).bind fun v59=>(kqa).bind fun v61=>some (((zna.mk v59 ((w64 (a0.Next+1)))),a0.Next,v61))))))
noncomputable def qTa(a0:Str):Option Str:=
 (vca a0).bind fun v1=>some v1.2.1
def vZa(a1:Int)(j11:List zba)(s17:Int):Option (Step Int (Unit ⊕ Int)):=
 (bif decide (s17 < (j11.length:Int)) then (idx j11 s17).bind fun v23=>(idx j11 s17).bind fun v25=>(bif decide (a1 < v25.Due) then some (.out (.inr s17)) else some (.cont (w64 (s17+1)))) else some (.out (.inl (()))))
def v0a(a1:Int)(s29:Int × Int × (List zba)):Option (Step (Int × Int × (List zba)) (Int × (List zba))):=
 (bif decide (s29.2.1 < (s29.2.2.length:Int)) then ((idx s29.2.2 s29.2.1).bind fun v34=>(idx s29.2.2 s29.2.1).bind fun v36=>(bif (!(decide (a1 < v36.Due))) then (idx s29.2.2 s29.1).bind fun v39=>(idx s29.2.2 s29.1).bind fun v41=>some (((w64 (s29.1+1)),(List.set s29.2.2 (Int.toNat s29.1) v36))) else some ((s29.1,s29.2.2))):Option (Int × (List zba))).bind fun (j33:Int × (List zba))=>some (.cont (j33.1,(w64 (s29.2.1+1)),j33.2)) else some (.out ((s29.1,s29.2.2))))
noncomputable def qoa(v53:zba)(s55:Int × (List ((Int × Str) × Bool)) × (List (Str × Int))):Option (Step (Int × (List ((Int × Str) × Bool)) × (List (Str × Int))) ((List ((Int × Str) × Bool)) × (List (Str × Int)))):=
 (bif decide (s55.1 < (v53.To.length:Int)) then ((idx v53.To s55.1).bind fun v60=>(qTa v60.Recipient.Address).bind fun v62=>((bif v60.Busy then some ((!(((mget s55.2.1 ((v53.Id,v62))).getD false)))) else some false):Option Bool).bind fun (j64:Bool)=>(bif j64 then some (((mput s55.2.1 ((v53.Id,v62)) true),(mput s55.2.2 v62 ((w64 (((mget s55.2.2 v62).getD 0)+1)))))) else some ((s55.2.1,s55.2.2))):Option ((List ((Int × Str) × Bool)) × (List (Str × Int)))).bind fun (j59:(List ((Int × Str) × Bool)) × (List (Str × Int)))=>some (.cont ((w64 (s55.1+1)),j59.1,j59.2)) else some (.out ((s55.2.1,s55.2.2))))
noncomputable def qpa(a0:zna)(s49:Int × (List ((Int × Str) × Bool)) × (List (Str × Int))):Option (Step (Int × (List ((Int × Str) × Bool)) × (List (Str × Int))) ((List ((Int × Str) × Bool)) × (List (Str × Int)))):=
 (bif decide (s49.1 < (a0.Entries.length:Int)) then (idx a0.Entries s49.1).bind fun v53=>(iter (qoa v53) ((0,s49.2.1,s49.2.2))).bind fun b56=>some (.cont ((w64 (s49.1+1)),b56.1,b56.2)) else some (.out ((s49.2.1,s49.2.2))))
noncomputable def qqa(v73:zba)(s75:Int × (List (Str × (List Int))) × (List Str)):Option (Step (Int × (List (Str × (List Int))) × (List Str)) ((List (Str × (List Int))) × (List Str))):=
 (bif decide (s75.1 < (v73.To.length:Int)) then ((idx v73.To s75.1).bind fun v80=>(bif (v80.Result !=0) then some ((s75.2.1,s75.2.2)) else (qTa v80.Recipient.Address).bind fun v83=>((bif (mpos s75.2.1 v83).isNone then (app 8796093022208 s75.2.2 (([v83]:List Str))).bind fun v87=>some v87 else some s75.2.2):Option (List Str)).bind fun (j85:List Str)=>(app 17592186044416 (((mget s75.2.1 v83).getD [])) (([s75.1]:List Int))).bind fun v89=>(Yka v89).bind fun v91=>some (((mput s75.2.1 v83 v89),j85))):Option ((List (Str × (List Int))) × (List Str))).bind fun (j79:(List (Str × (List Int))) × (List Str))=>some (.cont ((w64 (s75.1+1)),j79.1,j79.2)) else some (.out ((s75.2.1,s75.2.2))))
def qra(b50:(List ((Int × Str) × Bool)) × (List (Str × Int)))(v73:zba)(b76:(List (Str × (List Int))) × (List Str))(s95:Int × (List zka) × (List (Str × Int))):Option (Step (Int × (List zka) × (List (Str × Int))) ((List zka) × (List (Str × Int)))):=
 (bif decide (s95.1 < (b76.2.length:Int)) then (idx b76.2 s95.1).bind fun v99=>((bif (!(((mget b50.1 ((v73.Id,v99))).getD false))) then some (decide (((mget s95.2.2 v99).getD 0) < 2)) else some false):Option Bool).bind fun (j101:Bool)=>(bif j101 then (app 2932031007402 s95.2.1 (([(zka.mk v73.Id v99 (((mget b76.1 v99).getD (([]:List Int)))))]:List zka))).bind fun v104=>some (.cont ((w64 (s95.1+1)),v104,(mput s95.2.2 v99 ((w64 (((mget s95.2.2 v99).getD 0)+1)))))) else some (.cont ((w64 (s95.1+1)),s95.2.1,s95.2.2))) else some (.out ((s95.2.1,s95.2.2))))
noncomputable def qsa(v47:List zba)(b50:(List ((Int × Str) × Bool)) × (List (Str × Int)))(s67:Int × (List zka) × (List (Str × Int))):Option (Step (Int × (List zka) × (List (Str × Int))) (List zka)):=
 (bif decide (s67.1 < (v47.length:Int)) then (idx v47 s67.1).bind fun v71=>(idx v47 s67.1).bind fun v73=>(iter (qqa v73) ((0,([]:List (Str × (List Int))),([]:List Str)))).bind fun b76=>(iter (qra b50 v73 b76) ((0,s67.2.1,s67.2.2))).bind fun b96=>some (.cont ((w64 (s67.1+1)),b96.1,b96.2)) else some (.out s67.2.1))
noncomputable def y1a(a0:zna)(a1:Int):Option ((List zka) × zpa):=
 (kRa a0).bind fun v1=>(kba v1).bind fun v3=>(bif v3 then some (([],v1)) else (qKa a1).bind fun v6=>(bif (!v6) then (zra 3 ((-7))).bind fun v9=>some (([],v9)) else ((nilE a0.Entries.isEmpty (some (([]:List zba))) ((app 879609302220 ([]:List zba) a0.Entries).bind fun v13=>some v13)):Option (List zba)).bind fun (j11:List zba)=>(((iter (vZa a1 j11) 0).bind (Sum.elim (fun b18=>some ((-1))) (fun b19=>some b19)):Option Int).bind fun (j16:Int)=>(bif (j16==(-1)) then some j11 else (iter (v0a a1) ((j16,(w64 (j16+1)),j11))).bind fun b30=>(cut b30.2 b30.1 (b30.2.length:Int)).bind fun v43=>(cut ((clr0 b30.2 (Int.toNat b30.1) ((zba.mk 0 ((ksa.mk ((zCa.mk (([]:Str)) ([]) (([]:Str)))) ((zua.mk ([]) ([]))))) 0 0 0 ([]))))) 0 b30.1).bind fun v45=>some v45):Option (List zba)).bind fun (j15:List zba)=>(zGa j15).bind fun v47=>(iter (qpa a0) ((0,([]:List ((Int × Str) × Bool)),([]:List (Str × Int))))).bind fun b50=>(iter (qsa v47 b50) ((0,([]:List zka),b50.2))).bind fun b68=>(kqa).bind fun v106=>some ((b68,v106))))
def q8a(a0:zna)(a1:zka)(s7:Int):Option (Step Int (Unit ⊕ Int)):=
 (bif decide (s7 < (a0.Entries.length:Int)) then (idx a0.Entries s7).bind fun v13=>(bif (v13.Id==a1.Entry) then some (.out (.inr s7)) else some (.cont (w64 (s7+1)))) else some (.out (.inl (()))))
noncomputable def kxa(a1:zka)(a2:Bool)(v19:zba)(s26:Int):Option (Step Int (Unit ⊕ (Int × zpa))):=
 (bif decide (s26 < (a1.To.length:Int)) then (idx a1.To s26).bind fun v32=>((bif decide (v32 < 0) then some true else (bif decide ((v19.To.length:Int)<=v32) then some true else (bif decide (0 < s26) then (idx a1.To ((w64 (s26 - 1)))).bind fun v38=>some (decide (v32<=v38)) else some false))):Option Bool).bind fun (j34:Bool)=>(bif j34 then (zra 3 s26).bind fun v41=>some (.out (.inr ((0,v41)))) else (idx v19.To v32).bind fun v43=>(qTa v43.Recipient.Address).bind fun v45=>(bif (v45 !=a1.Domain) then (zra 5 s26).bind fun v48=>some (.out (.inr ((0,v48)))) else ((idx v19.To v32).bind fun v51=>(bif (v51.Result !=0) then some true else (idx v19.To v32).bind fun v54=>some ((v54.Busy !=a2))):Option Bool).bind fun (j50:Bool)=>(bif j50 then (zra 8 s26).bind fun v57=>some (.out (.inr ((0,v57)))) else some (.cont (w64 (s26+1)))))) else some (.out (.inl (()))))
noncomputable def vJa(a0:zna)(a1:zka)(a2:Bool):Option (Int × zpa):=
 (kRa a0).bind fun v1=>(kba v1).bind fun v3=>(bif v3 then some ((0,v1)) else ((iter (q8a a0 a1) 0).bind (Sum.elim (fun b8=>some ((-1))) (fun b9=>some b9)):Option Int).bind fun (j6:Int)=>(bif decide (j6 < 0) then (zra 6 ((-3))).bind fun v17=>some ((0,v17)) else (idx a0.Entries j6).bind fun v19=>((bif ((a1.To.length:Int)==0) then some true else some (decide ((v19.To.length:Int) < (a1.To.length:Int)))):Option Bool).bind fun (j21:Bool)=>(bif j21 then (zra 2 ((-4))).bind fun v24=>some ((0,v24)) else (iter (kxa a1 a2 v19) 0).bind (Sum.elim (fun b27=>(kqa).bind fun v59=>some ((j6,v59))) (fun b28=>some ((b28.1,b28.2)))))))
noncomputable def Qoa(v10:zba)(s12:Int × (List ((Int × Str) × Bool)) × (List (Str × Int))):Option (Step (Int × (List ((Int × Str) × Bool)) × (List (Str × Int))) ((List ((Int × Str) × Bool)) × (List (Str × Int)))):=
 (bif decide (s12.1 < (v10.To.length:Int)) then ((idx v10.To s12.1).bind fun v17=>(qTa v17.Recipient.Address).bind fun v19=>((bif v17.Busy then some ((!(((mget s12.2.1 ((v10.Id,v19))).getD false)))) else some false):Option Bool).bind fun (j21:Bool)=>(bif j21 then some (((mput s12.2.1 ((v10.Id,v19)) true),(mput s12.2.2 v19 ((w64 (((mget s12.2.2 v19).getD 0)+1)))))) else some ((s12.2.1,s12.2.2))):Option ((List ((Int × Str) × Bool)) × (List (Str × Int)))).bind fun (j16:(List ((Int × Str) × Bool)) × (List (Str × Int)))=>some (.cont ((w64 (s12.1+1)),j16.1,j16.2)) else some (.out ((s12.2.1,s12.2.2))))
noncomputable def j4a(a0:zna)(s6:Int × (List ((Int × Str) × Bool)) × (List (Str × Int))):Option (Step (Int × (List ((Int × Str) × Bool)) × (List (Str × Int))) ((List ((Int × Str) × Bool)) × (List (Str × Int)))):=
 (bif decide (s6.1 < (a0.Entries.length:Int)) then (idx a0.Entries s6.1).bind fun v10=>(iter (Qoa v10) ((0,s6.2.1,s6.2.2))).bind fun b13=>some (.cont ((w64 (s6.1+1)),b13.1,b13.2)) else some (.out ((s6.2.1,s6.2.2))))
noncomputable def j5a(v29:List zba)(s31:Int × Nat × (List zba)):Option (Step (Int × Nat × (List zba)) ((List zba) × Nat)):=
 (bif decide (s31.1 < (v29.length:Int)) then (idx s31.2.2 s31.1).bind fun v35=>(idx s31.2.2 s31.1).bind fun v37=>(kGa v37.Mail).bind fun v39=>(V7a s31.2.1 s31.1).bind fun v41=>(idx s31.2.2 s31.1).bind fun v43=>(zya v43.To).bind fun v45=>(idx s31.2.2 s31.1).bind fun v47=>(kab s31.2.1 s31.1).bind fun v49=>(idx ((List.set s31.2.2 (Int.toNat s31.1) ((zba.mk v47.Id v39 v47.Since v47.Tries v47.Due v47.To)))) s31.1).bind fun v51=>some (.cont ((w64 (s31.1+1)),(s31.2.1+1),(List.set ((List.set s31.2.2 (Int.toNat s31.1) ((zba.mk v47.Id v39 v47.Since v47.Tries v47.Due v47.To)))) (Int.toNat s31.1) ((zba.mk v51.Id v51.Mail v51.Since v51.Tries v51.Due v45))))) else some (.out ((s31.2.2,s31.2.1))))
def wCa(a1:zka)(v1:Int × zpa)(b32:(List zba) × Nat)(s53:Int × (List zba)):Option (Step (Int × (List zba)) (List zba)):=
 (bif decide (s53.1 < (a1.To.length:Int)) then (idx a1.To s53.1).bind fun v57=>(idx s53.2 v1.1).bind fun v59=>(nown b32.2 v1.1).bind fun v61=>(idx s53.2 v1.1).bind fun v63=>(idx s53.2 v1.1).bind fun v65=>(idx v65.To v57).bind fun v67=>(idx s53.2 v1.1).bind fun v69=>(idx v69.To v57).bind fun v71=>some (.cont ((w64 (s53.1+1)),(List.set s53.2 (Int.toNat v1.1) ((zba.mk v69.Id v69.Mail v69.Since v69.Tries v69.Due ((List.set v69.To (Int.toNat v57) ((zda.mk v71.Recipient v71.Result true))))))))) else some (.out s53.2))
noncomputable def yGa(a0:zna)(a1:zka):Option (zna × zpa):=
 (vJa a0 a1 false).bind fun v1=>(kba v1.2).bind fun v3=>(bif v3 then some (((zna.mk ([]) 0),v1.2)) else (iter (j4a a0) ((0,([]:List ((Int × Str) × Bool)),([]:List (Str × Int))))).bind fun b7=>((bif decide (2<=((mget b7.2 a1.Domain).getD 0)) then some true else some (((mget b7.1 ((a1.Entry,a1.Domain))).getD false))):Option Bool).bind fun (j24:Bool)=>(bif j24 then (zra 8 ((-5))).bind fun v27=>some (((zna.mk ([]) 0),v27)) else (zFa a0.Entries).bind fun v29=>(iter (j5a v29) ((0,0,v29))).bind fun b32=>(iter (wCa a1 v1 b32) ((0,b32.1))).bind fun b54=>(kqa).bind fun v73=>some (((zna.mk b54 a0.Next),v73))))
def qfa(a1:Int)(s17:Int × Int):Option (Step (Int × Int) Int):=
 ((bif decide (s17.2 < a1) then some (decide (s17.1 < 14400)) else some false):Option Bool).bind fun (j20:Bool)=>(bif j20 then some (.cont ((min ((w64 (2 * s17.1))) 14400),(w64 (s17.2+1)))) else some (.out s17.1))
noncomputable def jPa(a0:Int)(a1:Int)(a2:Int):Option (Int × Bool × zpa):=
 (yXa (([a0,a2]:List Int))).bind fun v1=>(bif (!v1) then (zra 3 ((-2))).bind fun v4=>some ((0,false,v4)) else ((bif decide (a1 < 1) then some true else some (decide (1000000 < a1))):Option Bool).bind fun (j6:Bool)=>(bif j6 then (zra 3 ((-3))).bind fun v9=>some ((0,false,v9)) else (bif decide (a2 < a0) then (zra 19 ((-4))).bind fun v12=>some ((0,false,v12)) else (bif decide ((w64 (a0+345600))<=a2) then (kqa).bind fun v15=>some ((0,false,v15)) else (iter (qfa a1) ((60,1))).bind fun b18=>(kqa).bind fun v23=>some (((min (min ((w64 (a2+b18))) ((w64 (a0+345600)))) 68719476736),true,v23))))))
def wDa(a2:List Int)(s10:Int):Option (Step Int (Unit ⊕ Int)):=
 (bif decide (s10 < (a2.length:Int)) then (idx a2 s10).bind fun v16=>((bif decide (v16 < 1) then some true else some (decide (4 < v16))):Option Bool).bind fun (j18:Bool)=>(bif j18 then some (.out (.inr s10)) else some (.cont (w64 (s10+1)))) else some (.out (.inl (()))))
noncomputable def j6a(v34:List zba)(s36:Int × Nat × (List zba)):Option (Step (Int × Nat × (List zba)) ((List zba) × Nat)):=
 (bif decide (s36.1 < (v34.length:Int)) then (idx s36.2.2 s36.1).bind fun v40=>(idx s36.2.2 s36.1).bind fun v42=>(kGa v42.Mail).bind fun v44=>(V7a s36.2.1 s36.1).bind fun v46=>(idx s36.2.2 s36.1).bind fun v48=>(zya v48.To).bind fun v50=>(idx s36.2.2 s36.1).bind fun v52=>(kab s36.2.1 s36.1).bind fun v54=>(idx ((List.set s36.2.2 (Int.toNat s36.1) ((zba.mk v52.Id v44 v52.Since v52.Tries v52.Due v52.To)))) s36.1).bind fun v56=>some (.cont ((w64 (s36.1+1)),(s36.2.1+1),(List.set ((List.set s36.2.2 (Int.toNat s36.1) ((zba.mk v52.Id v44 v52.Since v52.Tries v52.Due v52.To)))) (Int.toNat s36.1) ((zba.mk v56.Id v56.Mail v56.Since v56.Tries v56.Due v50))))) else some (.out ((s36.2.2,s36.2.1))))
def wEa(a2:List Int)(s62:Int):Option (Step Int (Unit ⊕ Int)):=
 (bif decide (s62 < (a2.length:Int)) then (idx a2 s62).bind fun v68=>((bif (v68==2) then some true else some ((v68==4))):Option Bool).bind fun (j70:Bool)=>(bif j70 then some (.out (.inr s62)) else some (.cont (w64 (s62+1)))) else some (.out (.inl (()))))
def q0a(a1:zka)(a2:List Int)(v1:Int × zpa)(b37:(List zba) × Nat)(j60:Bool × (List zba))(s90:Int × (List zja) × (List zba)):Option (Step (Int × (List zja) × (List zba)) ((List zja) × (List zba))):=
 (bif decide (s90.1 < (a1.To.length:Int)) then ((idx a1.To s90.1).bind fun v95=>(idx a2 s90.1).bind fun v97=>(nown b37.2 v1.1).bind fun v99=>(idx s90.2.2 v1.1).bind fun v101=>(idx s90.2.2 v1.1).bind fun v103=>(idx v103.To v95).bind fun v105=>(idx s90.2.2 v1.1).bind fun v107=>(idx v107.To v95).bind fun v109=>(((bif (v97==2) then some true else some ((v97==4))):Option Bool).bind fun (j112:Bool)=>(bif j112 then some j60.1 else some false):Option Bool).bind fun (j111:Bool)=>(bif j111 then some ((s90.2.1,(List.set s90.2.2 (Int.toNat v1.1) ((zba.mk v107.Id v107.Mail v107.Since v107.Tries v107.Due ((List.set v107.To (Int.toNat v95) ((zda.mk v109.Recipient v109.Result false))))))))) else (((bif (v97==2) then some true else some ((v97==4))):Option Bool).bind fun (j117:Bool)=>(bif j117 then some 3 else some v97):Option Int).bind fun (j116:Int)=>(nown b37.2 v1.1).bind fun v120=>(idx ((List.set s90.2.2 (Int.toNat v1.1) ((zba.mk v107.Id v107.Mail v107.Since v107.Tries v107.Due ((List.set v107.To (Int.toNat v95) ((zda.mk v109.Recipient v109.Result false)))))))) v1.1).bind fun v122=>(idx ((List.set s90.2.2 (Int.toNat v1.1) ((zba.mk v107.Id v107.Mail v107.Since v107.Tries v107.Due ((List.set v107.To (Int.toNat v95) ((zda.mk v109.Recipient v109.Result false)))))))) v1.1).bind fun v124=>(idx v124.To v95).bind fun v126=>(idx ((List.set s90.2.2 (Int.toNat v1.1) ((zba.mk v107.Id v107.Mail v107.Since v107.Tries v107.Due ((List.set v107.To (Int.toNat v95) ((zda.mk v109.Recipient v109.Result false)))))))) v1.1).bind fun v128=>(idx v128.To v95).bind fun v130=>(idx ((List.set ((List.set s90.2.2 (Int.toNat v1.1) ((zba.mk v107.Id v107.Mail v107.Since v107.Tries v107.Due ((List.set v107.To (Int.toNat v95) ((zda.mk v109.Recipient v109.Result false)))))))) (Int.toNat v1.1) ((zba.mk v128.Id v128.Mail v128.Since v128.Tries v128.Due ((List.set v128.To (Int.toNat v95) ((zda.mk v130.Recipient j116 v130.Busy)))))))) v1.1).bind fun v132=>(app 5864062014805 s90.2.1 (([(zja.mk v132.Id v95 j116)]:List zja))).bind fun v134=>some ((v134,(List.set ((List.set s90.2.2 (Int.toNat v1.1) ((zba.mk v107.Id v107.Mail v107.Since v107.Tries v107.Due ((List.set v107.To (Int.toNat v95) ((zda.mk v109.Recipient v109.Result false)))))))) (Int.toNat v1.1) ((zba.mk v128.Id v128.Mail v128.Since v128.Tries v128.Due ((List.set v128.To (Int.toNat v95) ((zda.mk v130.Recipient j116 v130.Busy)))))))))):Option ((List zja) × (List zba))).bind fun (j94:(List zja) × (List zba))=>some (.cont ((w64 (s90.1+1)),j94.1,j94.2)) else some (.out ((s90.2.1,s90.2.2))))
noncomputable def yHa(a0:zna)(a1:zka)(a2:List Int)(a3:Int):Option (zna × (List zja) × zpa):=
 (vJa a0 a1 true).bind fun v1=>(kba v1.2).bind fun v3=>(bif v3 then some (((zna.mk ([]) 0),[],v1.2)) else (bif ((a2.length:Int) !=(a1.To.length:Int)) then (zra 9 ((-6))).bind fun v7=>some (((zna.mk ([]) 0),[],v7)) else ((iter (wDa a2) 0).bind (Sum.elim (fun b11=>some ((-1))) (fun b12=>some b12)):Option Int).bind fun (j9:Int)=>(bif decide (0<=j9) then (zra 3 ((-6))).bind fun v22=>some (((zna.mk ([]) 0),[],v22)) else (qKa a3).bind fun v24=>(bif (!v24) then (zra 3 ((-7))).bind fun v27=>some (((zna.mk ([]) 0),[],v27)) else (idx a0.Entries v1.1).bind fun v29=>(bif decide (a3 < v29.Since) then (zra 19 ((-7))).bind fun v32=>some (((zna.mk ([]) 0),[],v32)) else (zFa a0.Entries).bind fun v34=>(iter (j6a v34) ((0,0,v34))).bind fun b37=>(idx b37.1 v1.1).bind fun v58=>(((iter (wEa a2) 0).bind (Sum.elim (fun b63=>some ((-1))) (fun b64=>some b64)):Option Int).bind fun (j61:Int)=>(bif decide (0<=j61) then (idx b37.1 v1.1).bind fun v74=>(idx b37.1 v1.1).bind fun v76=>(idx ((List.set b37.1 (Int.toNat v1.1) ((zba.mk v76.Id v76.Mail v76.Since ((min ((w64 (v74.Tries+1))) 1000000)) v76.Due v76.To)))) v1.1).bind fun v78=>(idx ((List.set b37.1 (Int.toNat v1.1) ((zba.mk v76.Id v76.Mail v76.Since ((min ((w64 (v74.Tries+1))) 1000000)) v76.Due v76.To)))) v1.1).bind fun v80=>(jPa v78.Since v80.Tries a3).bind fun v82=>((bif v82.2.1 then (idx ((List.set b37.1 (Int.toNat v1.1) ((zba.mk v76.Id v76.Mail v76.Since ((min ((w64 (v74.Tries+1))) 1000000)) v76.Due v76.To)))) v1.1).bind fun v86=>(idx ((List.set b37.1 (Int.toNat v1.1) ((zba.mk v76.Id v76.Mail v76.Since ((min ((w64 (v74.Tries+1))) 1000000)) v76.Due v76.To)))) v1.1).bind fun v88=>some ((List.set ((List.set b37.1 (Int.toNat v1.1) ((zba.mk v76.Id v76.Mail v76.Since ((min ((w64 (v74.Tries+1))) 1000000)) v76.Due v76.To)))) (Int.toNat v1.1) ((zba.mk v88.Id v88.Mail v88.Since v88.Tries ((max v82.1 v86.Due)) v88.To)))) else some ((List.set b37.1 (Int.toNat v1.1) ((zba.mk v76.Id v76.Mail v76.Since ((min ((w64 (v74.Tries+1))) 1000000)) v76.Due v76.To))))):Option (List zba)).bind fun (j84:List zba)=>some ((v82.2.1,j84)) else some ((true,b37.1))):Option (Bool × (List zba))).bind fun (j60:Bool × (List zba))=>(iter (q0a a1 a2 v1 b37 j60) ((0,([]:List zja),j60.2))).bind fun b91=>((idx b91.2 v1.1).bind fun v137=>(qZa v137).bind fun v139=>(bif (!v139) then ((cut3 b91.2 v1.1 ((w64 (v1.1+1))) ((b91.2.length:Int))).bind fun v143=>(bif (v1.1==(w64 (v1.1+1))) then some b91.2 else (cut b91.2 0 v1.1).bind fun v146=>(cut b91.2 ((w64 (v1.1+1))) (b91.2.length:Int)).bind fun v148=>(shft b91.2 v1.1 ((w64 (v1.1+1)))).bind fun v150=>(V4a v150 (((((Int.toNat v1.1)+(b91.2.length - (Int.toNat ((w64 (v1.1+1)))))):Nat):Int)) ((b91.2.length:Int))).bind fun v152=>some ((List.take ((Int.toNat v1.1)+(b91.2.length - (Int.toNat ((w64 (v1.1+1)))))) ((clr0 v150 (Int.toNat (((((Int.toNat v1.1)+(b91.2.length - (Int.toNat ((w64 (v1.1+1)))))):Nat):Int))) ((zba.mk 0 ((ksa.mk ((zCa.mk (([]:Str)) ([]) (([]:Str)))) ((zua.mk ([]) ([]))))) 0 0 0 ([])))))))):Option (List zba)).bind fun (j142:List zba)=>some j142 else some b91.2):Option (List zba)).bind fun (j136:List zba)=>(kqa).bind fun v154=>some (((zna.mk j136 a0.Next),b91.1,v154)))))))
noncomputable def j7a(v6:List zba)(s8:Int × Nat × (List zba)):Option (Step (Int × Nat × (List zba)) ((List zba) × Nat)):=
 (bif decide (s8.1 < (v6.length:Int)) then (idx s8.2.2 s8.1).bind fun v12=>(idx s8.2.2 s8.1).bind fun v14=>(kGa v14.Mail).bind fun v16=>(V7a s8.2.1 s8.1).bind fun v18=>(idx s8.2.2 s8.1).bind fun v20=>(zya v20.To).bind fun v22=>(idx s8.2.2 s8.1).bind fun v24=>(kab s8.2.1 s8.1).bind fun v26=>(idx ((List.set s8.2.2 (Int.toNat s8.1) ((zba.mk v24.Id v16 v24.Since v24.Tries v24.Due v24.To)))) s8.1).bind fun v28=>some (.cont ((w64 (s8.1+1)),(s8.2.1+1),(List.set ((List.set s8.2.2 (Int.toNat s8.1) ((zba.mk v24.Id v16 v24.Since v24.Tries v24.Due v24.To)))) (Int.toNat s8.1) ((zba.mk v28.Id v28.Mail v28.Since v28.Tries v28.Due v22))))) else some (.out ((s8.2.2,s8.2.1))))
def wFa(s30:Int × (List zba))(v40:zba)(s42:Int × (List zba)):Option (Step (Int × (List zba)) (List zba)):=
 (bif decide (s42.1 < (v40.To.length:Int)) then (idx s42.2 s30.1).bind fun v46=>(idx v46.To s42.1).bind fun v48=>(idx s42.2 s30.1).bind fun v50=>(idx v50.To s42.1).bind fun v52=>some (.cont ((w64 (s42.1+1)),(List.set s42.2 (Int.toNat s30.1) ((zba.mk v50.Id v50.Mail v50.Since v50.Tries v50.Due ((List.set v50.To (Int.toNat s42.1) ((zda.mk v52.Recipient v52.Result false))))))))) else some (.out s42.2))
noncomputable def wGa(b9:(List zba) × Nat)(s30:Int × (List zba)):Option (Step (Int × (List zba)) (List zba)):=
 (bif decide (s30.1 < (b9.1.length:Int)) then (idx s30.2 s30.1).bind fun v34=>(nown b9.2 s30.1).bind fun v36=>(idx s30.2 s30.1).bind fun v38=>(idx s30.2 s30.1).bind fun v40=>(iter (wFa s30 v40) ((0,s30.2))).bind fun b43=>some (.cont ((w64 (s30.1+1)),b43)) else some (.out s30.2))
noncomputable def jQa(a0:zna):Option (zna × zpa):=
 (kRa a0).bind fun v1=>(kba v1).bind fun v3=>(bif v3 then some (((zna.mk ([]) 0),v1)) else (zFa a0.Entries).bind fun v6=>(iter (j7a v6) ((0,0,v6))).bind fun b9=>(iter (wGa b9) ((0,b9.1))).bind fun b31=>(kqa).bind fun v54=>some (((zna.mk b31 a0.Next),v54)))
def wSa(a0:Int):Option Bool:=
 (R_In a0 ((-68719476736)) 68719476736).bind fun v1=>some v1
def vua(s2:Int × Int)(j8:Int):Option (Step (Int × Int) (Int ⊕ Int)):=
 some (.cont (j8,(w64 (s2.2+1))))
def qQa(a0:zba)(s2:Int × Int):Option (Step (Int × Int) (Int ⊕ Int)):=
 (bif decide (s2.2 < (a0.Mail.Envelope.To.length:Int)) then (idx a0.To s2.2).bind fun v9=>((idx a0.Mail.Envelope.To s2.2).bind fun v12=>(bif (!(z2a [(v9.Recipient.Address==v12.Address),(v9.Recipient.Notify==v12.Notify)])) then some true else (bif (v9.Result !=0) then (bif (v9.Result !=1) then (bif (v9.Result !=3) then some true else (bif v9.Busy then some ((v9.Result !=0)) else some false)) else (bif v9.Busy then some ((v9.Result !=0)) else some false)) else (bif v9.Busy then some ((v9.Result !=0)) else some false))):Option Bool).bind fun (j11:Bool)=>(bif j11 then some (.out (.inr 5)) else (bif (v9.Result==0) then (vua s2 (w64 (s2.1+1))) else (vua s2 s2.1))) else some (.out (.inl s2.1)))
noncomputable def wla(a0:zba):Option Int:=
 (bif ((a0.To.length:Int) !=(a0.Mail.Envelope.To.length:Int)) then some 5 else (iter (qQa a0) ((0,0))).bind (Sum.elim (fun b3=>(bif (b3==0) then some 5 else some 0)) (fun b4=>some b4)))
noncomputable def k8a(a0:zna)(s9:Int × Int):Option (Step (Int × Int) (Unit ⊕ zpa)):=
 (bif decide (s9.2 < (a0.Entries.length:Int)) then (idx a0.Entries s9.2).bind fun v15=>(yZa v15.Mail).bind fun v17=>(bif (v17.Code !=0) then (R_At v17.Code s9.2).bind fun v20=>some (.out (.inr v20)) else (R_In v15.Id ((w64 (s9.1+1))) ((w64 (a0.Next - 1)))).bind fun v22=>(bif (!v22) then (R_At 19 s9.2).bind fun v25=>some (.out (.inr v25)) else ((wSa v15.Since).bind fun v28=>(bif (!v28) then some true else (wSa v15.Due).bind fun v31=>(bif (!v31) then some true else (R_In v15.Tries 0 1000000).bind fun v34=>some ((!v34)))):Option Bool).bind fun (j27:Bool)=>(bif j27 then (R_At 3 s9.2).bind fun v37=>some (.out (.inr v37)) else (wla v15).bind fun v39=>(bif (v39 !=0) then (wla v15).bind fun v42=>(R_At v42 s9.2).bind fun v44=>some (.out (.inr v44)) else some (.cont (v15.Id,(w64 (s9.2+1)))))))) else some (.out (.inl (()))))
noncomputable def qga(a0:zna):Option zpa:=
 (bif decide (20 < (a0.Entries.length:Int)) then (R_At 2 ((-1))).bind fun v2=>some v2 else (R_In a0.Next 0 1000000).bind fun v4=>(bif (!v4) then (R_At 3 ((-2))).bind fun v7=>some v7 else (iter (k8a a0) (((-1),0))).bind (Sum.elim (fun b10=>some ((zpa.mk 0 0))) (fun b11=>some b11))))
def y2a(a0:zna)(s29:Int × Nat × (List zba)):Option (Step (Int × Nat × (List zba)) ((List zba) × Nat)):=
 (bif decide (s29.1 < (a0.Entries.length:Int)) then (idx a0.Entries s29.1).bind fun v33=>(app 3518437208883 (([]:List zda)) v33.To).bind fun v35=>(nall s29.2.1 (List.length s29.2.2)).bind fun v37=>(app 879609302220 s29.2.2 [(zba.mk v33.Id v33.Mail v33.Since v33.Tries v33.Due v35)]).bind fun v39=>some (.cont ((w64 (s29.1+1)),(s29.2.1+1),v39)) else some (.out ((s29.2.2,s29.2.1))))
noncomputable def jRa(a0:zba)(a1:Int):Option Str:=
 (idx a0.To a1).bind fun v1=>(jJa v1.Recipient.Address).bind fun v3=>some v3
noncomputable def w0a(a0:zba)(a1:Str)(s1:Int):Option (Step Int (Unit ⊕ Bool)):=
 (bif decide (s1 < (a0.To.length:Int)) then ((idx a0.To s1).bind fun v8=>(bif v8.Busy then (jRa a0 s1).bind fun v11=>some ((v11==a1)) else some false):Option Bool).bind fun (j7:Bool)=>(bif j7 then some (.out (.inr true)) else some (.cont (w64 (s1+1)))) else some (.out (.inl (()))))
noncomputable def wTa(a0:zba)(a1:Str):Option Bool:=
 (iter (w0a a0 a1) 0).bind (Sum.elim (fun b2=>some false) (fun b3=>some b3))
noncomputable def v1a(a0:zna)(a1:Str)(s1:Int × Int):Option (Step (Int × Int) Int):=
 (bif decide (s1.2 < (a0.Entries.length:Int)) then ((idx a0.Entries s1.2).bind fun v6=>(wTa v6 a1).bind fun v8=>(bif v8 then some ((w64 (s1.1+1))) else some s1.1):Option Int).bind fun (j5:Int)=>some (.cont (j5,(w64 (s1.2+1)))) else some (.out s1.1))
noncomputable def y3a(a0:zna)(a1:Str):Option Int:=
 (iter (v1a a0 a1) ((0,0))).bind fun b2=>some b2
def kKa(a0:zna)(a1:zka)(s1:Int × Int):Option (Step (Int × Int) Int):=
 (bif decide (s1.2 < (a0.Entries.length:Int)) then ((idx a0.Entries s1.2).bind fun v6=>(bif (v6.Id==a1.Entry) then some s1.2 else some s1.1):Option Int).bind fun (j5:Int)=>some (.cont (j5,(w64 (s1.2+1)))) else some (.out s1.1))
noncomputable def kha(a1:zka)(a2:Bool)(v12:zba)(s19:Int × Int):Option (Step (Int × Int) (Unit ⊕ (Int × zpa))):=
 (bif decide (s19.2 < (a1.To.length:Int)) then (idx a1.To s19.2).bind fun v25=>(R_In v25 ((w64 (s19.1+1))) ((w64 ((v12.To.length:Int) - 1)))).bind fun v27=>(bif (!v27) then (R_At 3 s19.2).bind fun v30=>some (.out (.inr ((0,v30)))) else (jRa v12 v25).bind fun v32=>(bif (v32 !=a1.Domain) then (R_At 5 s19.2).bind fun v35=>some (.out (.inr ((0,v35)))) else ((idx v12.To v25).bind fun v38=>(bif (v38.Result !=0) then some true else (idx v12.To v25).bind fun v41=>some ((v41.Busy !=a2))):Option Bool).bind fun (j37:Bool)=>(bif j37 then (R_At 8 s19.2).bind fun v44=>some (.out (.inr ((0,v44)))) else some (.cont (v25,(w64 (s19.2+1))))))) else some (.out (.inl (()))))
noncomputable def qRa(a0:zna)(a1:zka)(a2:Bool):Option (Int × zpa):=
 (iter (kKa a0 a1) (((-1),0))).bind fun b2=>(bif decide (b2 < 0) then (R_At 6 ((-3))).bind fun v10=>some ((0,v10)) else (idx a0.Entries b2).bind fun v12=>(R_In ((a1.To.length:Int)) 1 ((v12.To.length:Int))).bind fun v14=>(bif (!v14) then (R_At 2 ((-4))).bind fun v17=>some ((0,v17)) else (iter (kha a1 a2 v12) (((-1),0))).bind (Sum.elim (fun b20=>some ((b2,(zpa.mk 0 0)))) (fun b21=>some ((b21.1,b21.2))))))
def KRa(a0:zna)(s20:Int × Nat × (List zba)):Option (Step (Int × Nat × (List zba)) ((List zba) × Nat)):=
 (bif decide (s20.1 < (a0.Entries.length:Int)) then (idx a0.Entries s20.1).bind fun v24=>(app 3518437208883 (([]:List zda)) v24.To).bind fun v26=>(nall s20.2.1 (List.length s20.2.2)).bind fun v28=>(app 879609302220 s20.2.2 [(zba.mk v24.Id v24.Mail v24.Since v24.Tries v24.Due v26)]).bind fun v30=>some (.cont ((w64 (s20.1+1)),(s20.2.1+1),v30)) else some (.out ((s20.2.2,s20.2.1))))
def y4a(a1:zka)(v4:Int × zpa)(b21:(List zba) × Nat)(s32:Int × (List zba)):Option (Step (Int × (List zba)) (List zba)):=
 (bif decide (s32.1 < (a1.To.length:Int)) then (idx s32.2 v4.1).bind fun v36=>(nown b21.2 v4.1).bind fun v38=>(idx s32.2 v4.1).bind fun v40=>(idx a1.To s32.1).bind fun v42=>(idx s32.2 v4.1).bind fun v44=>(idx v44.To v42).bind fun v46=>(idx s32.2 v4.1).bind fun v48=>(idx v48.To v42).bind fun v50=>some (.cont ((w64 (s32.1+1)),(List.set s32.2 (Int.toNat v4.1) ((zba.mk v48.Id v48.Mail v48.Since v48.Tries v48.Due ((List.set v48.To (Int.toNat v42) ((zda.mk v50.Recipient v50.Result true))))))))) else some (.out s32.2))
noncomputable def Qpa(a0:zna)(a1:zka):Option (zna × zpa):=
 (qga a0).bind fun v1=>(bif (v1.Code !=0) then some (((zna.mk ([]) 0),v1)) else (qRa a0 a1 false).bind fun v4=>(((bif (v4.2.Code==0) then (y3a a0 a1.Domain).bind fun v9=>(bif decide (2<=v9) then some true else (idx a0.Entries v4.1).bind fun v12=>(wTa v12 a1.Domain).bind fun v14=>some v14) else some false):Option Bool).bind fun (j7:Bool)=>(bif j7 then (R_At 8 ((-5))).bind fun v17=>some ((v17.Code,v17.Index)) else some ((v4.2.Code,v4.2.Index))):Option (Int × Int)).bind fun (j6:Int × Int)=>(bif (j6.1 !=0) then some (((zna.mk ([]) 0),(zpa.mk j6.1 j6.2))) else (iter (KRa a0) ((0,0,([]:List zba)))).bind fun b21=>(iter (y4a a1 v4 b21) ((0,b21.1))).bind fun b33=>some (((zna.mk b33 a0.Next),(zpa.mk j6.1 j6.2)))))
def J9a(a0:Int):Option Int:=
 (bif decide (8 < a0) then some 14400 else (nng ((wu64 ((w64 (a0 - 1)))))).bind fun v2=>some ((iShl 60 ((wu64 ((w64 (a0 - 1))))))))
def Wga(a0:Int)(a1:Int)(a2:Int):Option (Int × Bool × zpa):=
 ((R_In a0 ((-68719476736)) 68719476736).bind fun v2=>(bif (!v2) then some true else (R_In a2 ((-68719476736)) 68719476736).bind fun v5=>some ((!v5))):Option Bool).bind fun (j1:Bool)=>(bif j1 then (R_At 3 ((-2))).bind fun v8=>some ((0,false,v8)) else (R_In a1 1 1000000).bind fun v10=>(bif (!v10) then (R_At 3 ((-3))).bind fun v13=>some ((0,false,v13)) else (bif decide (a2 < a0) then (R_At 19 ((-4))).bind fun v16=>some ((0,false,v16)) else (bif decide (345600<=(w64 (a2 - a0))) then some ((0,false,(zpa.mk 0 0))) else (J9a a1).bind fun v19=>((bif decide ((w64 (a0+345600)) < (w64 (a2+v19))) then some ((w64 (a0+345600))) else some ((w64 (a2+v19)))):Option Int).bind fun (j21:Int)=>((bif decide (68719476736 < j21) then some 68719476736 else some j21):Option Int).bind fun (j23:Int)=>some ((j23,true,(zpa.mk 0 0)))))))
def kua(a2:List Int)(s13:Bool × Int × Int × Int):Option (Step (Bool × Int × Int × Int) (Bool × Int × Int)):=
 ((bif decide (s13.2.1 < (a2.length:Int)) then some ((s13.2.2.1==0)) else some false):Option Bool).bind fun (j16:Bool)=>(bif j16 then (((idx a2 s13.2.1).bind fun v21=>(R_In v21 1 4).bind fun v23=>(bif (!v23) then (R_At 3 ((-6))).bind fun v26=>some ((v26.Code,v26.Index)) else some ((s13.2.2.1,s13.2.2.2))):Option (Int × Int)).bind fun (j20:Int × Int)=>(bif s13.1 then some ((true,j20.1,j20.2)) else (idx a2 s13.2.1).bind fun v29=>(bif (v29==2) then some ((true,j20.1,j20.2)) else (idx a2 s13.2.1).bind fun v32=>some (((v32==4),j20.1,j20.2)))):Option (Bool × Int × Int)).bind fun (j19:Bool × Int × Int)=>some (.cont (j19.1,(w64 (s13.2.1+1)),j19.2.1,j19.2.2)) else some (.out ((s13.1,s13.2.2.1,s13.2.2.2))))
def jAa(a0:zna)(s51:Int × Nat × (List zba)):Option (Step (Int × Nat × (List zba)) ((List zba) × Nat)):=
 (bif decide (s51.1 < (a0.Entries.length:Int)) then (idx a0.Entries s51.1).bind fun v55=>(app 3518437208883 (([]:List zda)) v55.To).bind fun v57=>(nall s51.2.1 (List.length s51.2.2)).bind fun v59=>(app 879609302220 s51.2.2 [(zba.mk v55.Id v55.Mail v55.Since v55.Tries v55.Due v57)]).bind fun v61=>some (.cont ((w64 (s51.1+1)),(s51.2.1+1),v61)) else some (.out ((s51.2.2,s51.2.1))))
def qta(a1:zka)(a2:List Int)(j3:Int × Int × Int)(b52:(List zba) × Nat)(j63:Int × (List zba))(s88:Int × (List zja) × (List zba)):Option (Step (Int × (List zja) × (List zba)) ((List zja) × (List zba))):=
 (bif decide (s88.1 < (a1.To.length:Int)) then ((idx a2 s88.1).bind fun v93=>(((bif (v93==2) then some true else some ((v93==4))):Option Bool).bind fun (j96:Bool)=>(bif j96 then some j63.1 else some v93):Option Int).bind fun (j95:Int)=>(idx s88.2.2 j3.1).bind fun v99=>(nown b52.2 j3.1).bind fun v101=>(idx s88.2.2 j3.1).bind fun v103=>(idx a1.To s88.1).bind fun v105=>(idx s88.2.2 j3.1).bind fun v107=>(idx v107.To v105).bind fun v109=>(idx s88.2.2 j3.1).bind fun v111=>(idx v111.To v105).bind fun v113=>(idx ((List.set s88.2.2 (Int.toNat j3.1) ((zba.mk v111.Id v111.Mail v111.Since v111.Tries v111.Due ((List.set v111.To (Int.toNat v105) ((zda.mk v113.Recipient v113.Result false)))))))) j3.1).bind fun v115=>(nown b52.2 j3.1).bind fun v117=>(idx ((List.set s88.2.2 (Int.toNat j3.1) ((zba.mk v111.Id v111.Mail v111.Since v111.Tries v111.Due ((List.set v111.To (Int.toNat v105) ((zda.mk v113.Recipient v113.Result false)))))))) j3.1).bind fun v119=>(idx a1.To s88.1).bind fun v121=>(idx ((List.set s88.2.2 (Int.toNat j3.1) ((zba.mk v111.Id v111.Mail v111.Since v111.Tries v111.Due ((List.set v111.To (Int.toNat v105) ((zda.mk v113.Recipient v113.Result false)))))))) j3.1).bind fun v123=>(idx v123.To v121).bind fun v125=>(idx ((List.set s88.2.2 (Int.toNat j3.1) ((zba.mk v111.Id v111.Mail v111.Since v111.Tries v111.Due ((List.set v111.To (Int.toNat v105) ((zda.mk v113.Recipient v113.Result false)))))))) j3.1).bind fun v127=>(idx v127.To v121).bind fun v129=>(bif (j95 !=0) then (idx a1.To s88.1).bind fun v132=>(app 5864062014805 s88.2.1 (([(zja.mk a1.Entry v132 j95)]:List zja))).bind fun v134=>some ((v134,(List.set ((List.set s88.2.2 (Int.toNat j3.1) ((zba.mk v111.Id v111.Mail v111.Since v111.Tries v111.Due ((List.set v111.To (Int.toNat v105) ((zda.mk v113.Recipient v113.Result false)))))))) (Int.toNat j3.1) ((zba.mk v127.Id v127.Mail v127.Since v127.Tries v127.Due ((List.set v127.To (Int.toNat v121) ((zda.mk v129.Recipient j95 v129.Busy))))))))) else some ((s88.2.1,(List.set ((List.set s88.2.2 (Int.toNat j3.1) ((zba.mk v111.Id v111.Mail v111.Since v111.Tries v111.Due ((List.set v111.To (Int.toNat v105) ((zda.mk v113.Recipient v113.Result false)))))))) (Int.toNat j3.1) ((zba.mk v127.Id v127.Mail v127.Since v127.Tries v127.Due ((List.set v127.To (Int.toNat v121) ((zda.mk v129.Recipient j95 v129.Busy)))))))))):Option ((List zja) × (List zba))).bind fun (j92:(List zja) × (List zba))=>some (.cont ((w64 (s88.1+1)),j92.1,j92.2)) else some (.out ((s88.2.1,s88.2.2))))
def vfa(b89:(List zja) × (List zba))(s137:Int × (List zba))(s142:Bool × Int):Option (Step (Bool × Int) Bool):=
 (idx b89.2 s137.1).bind fun v145=>(idx b89.2 s137.1).bind fun v147=>(bif decide (s142.2 < (v147.To.length:Int)) then ((bif s142.1 then some true else (idx b89.2 s137.1).bind fun v152=>(idx b89.2 s137.1).bind fun v154=>(idx v154.To s142.2).bind fun v156=>some ((v156.Result==0))):Option Bool).bind fun (j150:Bool)=>some (.cont (j150,(w64 (s142.2+1)))) else some (.out s142.1))
noncomputable def qua(b89:(List zja) × (List zba))(s137:Int × (List zba)):Option (Step (Int × (List zba)) (List zba)):=
 (bif decide (s137.1 < (b89.2.length:Int)) then ((iter (vfa b89 s137) ((false,0))).bind fun b143=>(bif b143 then (idx b89.2 s137.1).bind fun v159=>(idx b89.2 s137.1).bind fun v161=>(app 879609302220 s137.2 (([v161]:List zba))).bind fun v163=>some v163 else some s137.2):Option (List zba)).bind fun (j141:List zba)=>some (.cont ((w64 (s137.1+1)),j141)) else some (.out s137.2))
noncomputable def y5a(a0:zna)(a1:zka)(a2:List Int)(a3:Int):Option (zna × (List zja) × zpa):=
 (qga a0).bind fun v1=>((bif (v1.Code==0) then (qRa a0 a1 true).bind fun v5=>some ((v5.1,v5.2.Code,v5.2.Index)) else some ((0,v1.Code,v1.Index))):Option (Int × Int × Int)).bind fun (j3:Int × Int × Int)=>(((bif (j3.2.1==0) then some (((a2.length:Int) !=(a1.To.length:Int))) else some false):Option Bool).bind fun (j8:Bool)=>(bif j8 then (R_At 9 ((-6))).bind fun v11=>some ((v11.Code,v11.Index)) else some ((j3.2.1,j3.2.2))):Option (Int × Int)).bind fun (j7:Int × Int)=>(iter (kua a2) ((false,0,j7.1,j7.2))).bind fun b14=>(((bif (b14.2.1==0) then (wSa a3).bind fun v37=>some ((!v37)) else some false):Option Bool).bind fun (j35:Bool)=>(bif j35 then (R_At 3 ((-7))).bind fun v40=>some ((v40.Code,v40.Index)) else some ((b14.2.1,b14.2.2))):Option (Int × Int)).bind fun (j34:Int × Int)=>(((bif (j34.1==0) then (idx a0.Entries j3.1).bind fun v45=>some (decide (a3 < v45.Since)) else some false):Option Bool).bind fun (j43:Bool)=>(bif j43 then (R_At 19 ((-7))).bind fun v48=>some ((v48.Code,v48.Index)) else some ((j34.1,j34.2))):Option (Int × Int)).bind fun (j42:Int × Int)=>(bif (j42.1 !=0) then some (((zna.mk ([]) 0),[],(zpa.mk j42.1 j42.2))) else (iter (jAa a0) ((0,0,([]:List zba)))).bind fun b52=>((bif b14.1 then (idx a0.Entries j3.1).bind fun v65=>((bif decide (1000000 < (w64 (v65.Tries+1))) then some 1000000 else some ((w64 (v65.Tries+1)))):Option Int).bind fun (j67:Int)=>(idx b52.1 j3.1).bind fun v69=>(idx b52.1 j3.1).bind fun v71=>(idx a0.Entries j3.1).bind fun v73=>(Wga v73.Since j67 a3).bind fun v75=>((bif v75.2.1 then some 0 else some 3):Option Int).bind fun (j77:Int)=>((bif v75.2.1 then (idx a0.Entries j3.1).bind fun v81=>some (decide (v81.Due < v75.1)) else some false):Option Bool).bind fun (j79:Bool)=>(bif j79 then (idx ((List.set b52.1 (Int.toNat j3.1) ((zba.mk v71.Id v71.Mail v71.Since j67 v71.Due v71.To)))) j3.1).bind fun v84=>(idx ((List.set b52.1 (Int.toNat j3.1) ((zba.mk v71.Id v71.Mail v71.Since j67 v71.Due v71.To)))) j3.1).bind fun v86=>some ((j77,(List.set ((List.set b52.1 (Int.toNat j3.1) ((zba.mk v71.Id v71.Mail v71.Since j67 v71.Due v71.To)))) (Int.toNat j3.1) ((zba.mk v86.Id v86.Mail v86.Since v86.Tries v75.1 v86.To))))) else some ((j77,(List.set b52.1 (Int.toNat j3.1) ((zba.mk v71.Id v71.Mail v71.Since j67 v71.Due v71.To)))))) else some ((3,b52.1))):Option (Int × (List zba))).bind fun (j63:Int × (List zba))=>(iter (qta a1 a2 j3 b52 j63) ((0,([]:List zja),j63.2))).bind fun b89=>(iter (qua b89) ((0,([]:List zba)))).bind fun b138=>some (((zna.mk b138 a0.Next),b89.1,(zpa.mk j42.1 j42.2))))
def KSa(a0:zna)(s1:Int × Nat × (List zba)):Option (Step (Int × Nat × (List zba)) ((List zba) × Nat)):=
 (bif decide (s1.1 < (a0.Entries.length:Int)) then (idx a0.Entries s1.1).bind fun v5=>(app 3518437208883 (([]:List zda)) v5.To).bind fun v7=>(nall s1.2.1 (List.length s1.2.2)).bind fun v9=>(app 879609302220 s1.2.2 [(zba.mk v5.Id v5.Mail v5.Since v5.Tries v5.Due v7)]).bind fun v11=>some (.cont ((w64 (s1.1+1)),(s1.2.1+1),v11)) else some (.out ((s1.2.2,s1.2.1))))
def y6a(b2:(List zba) × Nat)(s13:Int × (List zba))(s17:Int × (List zba)):Option (Step (Int × (List zba)) (List zba)):=
 (idx s17.2 s13.1).bind fun v20=>(nown b2.2 s13.1).bind fun v22=>(idx s17.2 s13.1).bind fun v24=>(idx s17.2 s13.1).bind fun v26=>(bif decide (s17.1 < (v26.To.length:Int)) then (idx s17.2 s13.1).bind fun v29=>(nown b2.2 s13.1).bind fun v31=>(idx s17.2 s13.1).bind fun v33=>(idx s17.2 s13.1).bind fun v35=>(idx v35.To s17.1).bind fun v37=>(idx s17.2 s13.1).bind fun v39=>(idx v39.To s17.1).bind fun v41=>some (.cont ((w64 (s17.1+1)),(List.set s17.2 (Int.toNat s13.1) ((zba.mk v39.Id v39.Mail v39.Since v39.Tries v39.Due ((List.set v39.To (Int.toNat s17.1) ((zda.mk v41.Recipient v41.Result false))))))))) else some (.out s17.2))
noncomputable def y7a(b2:(List zba) × Nat)(s13:Int × (List zba)):Option (Step (Int × (List zba)) (List zba)):=
 (bif decide (s13.1 < (s13.2.length:Int)) then (iter (y6a b2 s13) ((0,s13.2))).bind fun b18=>some (.cont ((w64 (s13.1+1)),b18)) else some (.out s13.2))
noncomputable def Qqa(a0:zna):Option zna:=
 (iter (KSa a0) ((0,0,([]:List zba)))).bind fun b2=>(iter (y7a b2) ((0,b2.1))).bind fun b14=>some ((zna.mk b14 a0.Next))
def vva(v10:zba)(v12:zba)(s23:Int):Option (Step Int (Unit ⊕ Bool)):=
 (bif decide (s23 < (v10.To.length:Int)) then (idx v10.To s23).bind fun v29=>(idx v12.To s23).bind fun v31=>(bif (!(z2a [(z2a [(v29.Recipient.Address==v31.Recipient.Address),(v29.Recipient.Notify==v31.Recipient.Notify)]),(v29.Result==v31.Result),(v29.Busy==v31.Busy)])) then some (.out (.inr false)) else some (.cont (w64 (s23+1)))) else some (.out (.inl (()))))
noncomputable def wHa(a0:zna)(a1:zna)(s4:Int):Option (Step Int (Unit ⊕ Bool)):=
 (bif decide (s4 < (a0.Entries.length:Int)) then (idx a0.Entries s4).bind fun v10=>(idx a1.Entries s4).bind fun v12=>((bif (v10.Id !=v12.Id) then some true else (bif (v10.Since !=v12.Since) then some true else (bif (v10.Tries !=v12.Tries) then some true else (bif (v10.Due !=v12.Due) then some true else (bif ((v10.To.length:Int) !=(v12.To.length:Int)) then some true else (jOa v10.Mail v12.Mail).bind fun v20=>some ((!v20))))))):Option Bool).bind fun (j14:Bool)=>(bif j14 then some (.out (.inr false)) else (iter (vva v10 v12) 0).bind (Sum.elim (fun b24=>some (.cont (w64 (s4+1)))) (fun b25=>some (.out (.inr b25))))) else some (.out (.inl (()))))
noncomputable def vwa(a0:zna)(a1:zna):Option Bool:=
 ((bif (a0.Next !=a1.Next) then some true else some (((a0.Entries.length:Int) !=(a1.Entries.length:Int)))):Option Bool).bind fun (j1:Bool)=>(bif j1 then some false else (iter (wHa a0 a1) 0).bind (Sum.elim (fun b5=>some true) (fun b6=>some b6)))
noncomputable def Qra:Option zna:=
 (Qna (([([97,64,121]:Str),([98,64,121]:Str),([99,64,122]:Str)]:List Str))).bind fun v1=>(ZLa ((zna.mk ([]) 0)) v1 0).bind fun v3=>some v3.1
noncomputable def ZMa:Option Bool:=
 (Qra).bind fun v1=>(y1a v1 0).bind fun v3=>((bif (v3.2.Code !=0) then some true else (bif ((v3.1.length:Int) !=2) then some true else some (((v1.Entries.length:Int) !=1)))):Option Bool).bind fun (j5:Bool)=>(bif j5 then some false else (idx v3.1 0).bind fun v9=>(yGa v1 v9).bind fun v11=>(idx v3.1 0).bind fun v13=>(yHa v11.1 v13 (([1,2]:List Int)) 10).bind fun v15=>((bif (v11.2.Code !=0) then some true else (bif (v15.2.2.Code !=0) then some true else (bif ((v15.1.Entries.length:Int) !=1) then some true else some (((v15.2.1.length:Int) !=1))))):Option Bool).bind fun (j17:Bool)=>(bif j17 then some false else ((idx v3.1 0).bind fun v23=>(bif (v23.Domain==([121]:Str)) then (idx v3.1 0).bind fun v26=>(Yta v26.To (([0,1]:List Int))).bind fun v28=>(bif v28 then (idx v15.2.1 0).bind fun v31=>(bif (z2a [(v31.Entry==0),(v31.Number==0),(v31.Result==1)]) then (idx v15.1.Entries 0).bind fun v34=>(bif (v34.Due==70) then (idx v15.1.Entries 0).bind fun v37=>some ((v37.Tries==1)) else some false) else some false) else some false) else some false):Option Bool).bind fun (j22:Bool)=>some j22))
def vja(a0:List zja)(a1:List zja)(s2:Int):Option (Step Int (Unit ⊕ Bool)):=
 (bif decide (s2 < (a0.length:Int)) then (idx a0 s2).bind fun v8=>(idx a1 s2).bind fun v10=>(bif (!(z2a [(v8.Entry==v10.Entry),(v8.Number==v10.Number),(v8.Result==v10.Result)])) then some (.out (.inr false)) else some (.cont (w64 (s2+1)))) else some (.out (.inl (()))))
noncomputable def vxa(a0:List zja)(a1:List zja):Option Bool:=
 (bif ((a0.length:Int) !=(a1.length:Int)) then some false else (iter (vja a0 a1) 0).bind (Sum.elim (fun b3=>some true) (fun b4=>some b4)))
noncomputable def kHa(a0:zna)(a1:zka)(a2:List Int)(a3:Int):Option Bool:=
 (yGa a0 a1).bind fun v1=>(Qpa a0 a1).bind fun v3=>(yHa a0 a1 a2 a3).bind fun v5=>(y5a a0 a1 a2 a3).bind fun v7=>(jQa a0).bind fun v9=>((qga a0).bind fun v12=>(bif (v12.Code==0) then (Qqa a0).bind fun v15=>some ((v15.Entries,v15.Next)) else some (([],0))):Option ((List zba) × Int)).bind fun (j11:(List zba) × Int)=>((ZMa).bind fun v18=>(bif v18 then (bif (z2a [(v1.2.Code==v3.2.Code),(v1.2.Index==v3.2.Index)]) then (vwa v1.1 v3.1).bind fun v22=>(bif v22 then (bif (z2a [(v5.2.2.Code==v7.2.2.Code),(v5.2.2.Index==v7.2.2.Index)]) then (vwa v5.1 v7.1).bind fun v26=>(bif v26 then (vxa v5.2.1 v7.2.1).bind fun v29=>(bif v29 then (qga a0).bind fun v32=>(bif (z2a [(v9.2.Code==v32.Code),(v9.2.Index==v32.Index)]) then (vwa v9.1 ((zna.mk j11.1 j11.2))).bind fun v35=>some v35 else some false) else some false) else some false) else some false) else some false) else some false) else some false):Option Bool).bind fun (j17:Bool)=>some j17
section
theorem w64_ns(a b:Nat)(h:b<=a)(ha:a<=9223372036854775807):w64 ((a:Int) - (b:Int))=((a - b:Nat):Int):=by
 rw[qGa (by omega) (by omega)];omega
theorem Jga(a:Nat)(h:a<=9223372036854775807):w64 (a:Int)=(a:Int):=qGa (by omega) (by omega)
theorem jfa(c:UInt8)(k:Nat)(hk:OfNat.ofNat k < 256):((c.toNat:Int)==no_index (OfNat.ofNat k:Int))=(c==OfNat.ofNat k):=by
 have e:(OfNat.ofNat k:Int)=((OfNat.ofNat k:Nat):Int):=rfl;have h2:(OfNat.ofNat k:UInt8).toNat=(OfNat.ofNat k:Nat):=by
  show (UInt8.ofNat k).toNat=k;rw[UInt8.toNat_ofNat'];exact Nat.mod_eq_of_lt hk
 rw[Bool.eq_iff_iff,beq_iff_eq,beq_iff_eq,<-UInt8.toNat_inj,h2,e];omega
theorem Wha(c:UInt8)(k:Nat)(hk:OfNat.ofNat k < 256):((c.toNat:Int) !=no_index (OfNat.ofNat k:Int))=(c !=OfNat.ofNat k):=by
 unfold bne;rw[jfa c k hk]
section
variable {α:Type}
theorem Wia(l:List α)(i:Nat):idx l (i:Int)=l[i]? :=by unfold idx;rw[if_pos (by omega)];simp
theorem Yua{l:List α}{i:Nat}(h:i < l.length):idx l (i:Int)=some l[i]:=by rw[Wia];exact List.getElem?_eq_getElem h
theorem cut_nn{l:List α}{a b:Nat}(h1:a<=b)(h2:b<=l.length):cut l (a:Int) (b:Int)=some ((l.drop a).take (b - a)):=by
 unfold cut;rw[if_pos (by omega)];simp
theorem Vma{l:List α}{a:Nat}(h1:a<=l.length):cut l (a:Int) (l.length:Int)=some (l.drop a):=by
 rw[cut_nn h1 (Nat.le_refl _)];rw[List.take_of_length_le (by simp)]
theorem Wja{l:List α}{b:Nat}(h2:b<=l.length):cut l 0 (b:Int)=some (l.take b):=by
 have:=cut_nn (l:=l) (a:=0) (b:=b) (by omega) h2;simpa using this
theorem vka{lim:Nat}{l xs:List α}(h:l.length+xs.length<=lim):app lim l xs=some (l++xs):=by unfold app;rw[if_pos h]
theorem cat_ok{a b:Str}(h:a.length+b.length<=9223372036854775807):cat a b=some (a++b):=by unfold cat;rw[if_pos h]
end
section
variable {A R:Type} {body:A->Option (Step A R)}
theorem Jha(Inv:A->Prop)(m:A->Nat)(Post:A->R->Prop)
 (h:∀s,Inv s->(∃r,body s=some (.out r)/\Post s r)∨∃s',body s=some (.cont s')/\Inv s' /\m s' < m s/\∀r,Post s' r->Post s r):
 ∀s,Inv s->∃r,iter body s=some r/\Post s r:=by
 intro s;induction hn:m s using Nat.strongRecOn generalizing s with
 | _ n ih=>
  intro hi;rcases h s hi with ⟨r,h1,h2⟩ | ⟨s',h1,h2,h3,h4⟩
  .exact ⟨r,zEa h1,h2⟩
  obtain ⟨r,h5,h6⟩:=ih (m s') (by omega) s' rfl h2;exact ⟨r,(zSa h1).trans h5,h4 r h6⟩
theorem ZNa{α S:Type}(l:List α)(enc:Nat->S->A)(spec:Nat->List α->S->R)
 (h0:∀s,body (enc l.length s)=some (.out (spec l.length [] s)))
 (h1:∀p x r s,l=p++x::r->(body (enc p.length s)=some (.out (spec p.length (x::r) s)))∨∃s',body (enc p.length s)=some (.cont (enc (p.length+1) s'))/\spec p.length (x::r) s=spec (p.length+1) r s'):
 ∀{s0:A} (s:S) (_:s0=enc 0 s),iter body s0=some (spec 0 l s):=by
 have key:∀r p s,l=p++r->iter body (enc p.length s)=some (spec p.length r s):=by
  intro r;induction r with
  | nil=>
   intro p s h;have:p=l:=by simp[h]
   subst this;exact zEa (h0 s)
  | cons x r ih=>
   intro p s h;rcases h1 p x r s h with hb | ⟨s',hb,hs⟩
   .exact zEa hb
   rw[zSa hb,hs];have:=ih (p++ [x]) s' (by simp[h]);simpa using this
 rintro _ s rfl;exact key l [] s rfl
theorem Kia{α S:Type}(l:List α)(enc:Nat->S->A)(spec:Nat->List α->S->R)(Inv:Nat->List α->S->Prop)
 (h0:∀s,Inv l.length [] s->body (enc l.length s)=some (.out (spec l.length [] s)))
 (h1:∀p x r s,l=p++x::r->Inv p.length (x::r) s->(body (enc p.length s)=some (.out (spec p.length (x::r) s)))∨∃s',body (enc p.length s)=some (.cont (enc (p.length+1) s'))/\spec p.length (x::r) s=spec (p.length+1) r s' /\Inv (p.length+1) r s'):
 ∀{s0:A} (s:S) (_:s0=enc 0 s) (_:Inv 0 l s),iter body s0=some (spec 0 l s):=by
 have key:∀r p s,l=p++r->Inv p.length r s->iter body (enc p.length s)=some (spec p.length r s):=by
  intro r;induction r with
  | nil=>
   intro p s h hi;have:p=l:=by simp[h]
   subst this;exact zEa (h0 s hi)
  | cons x r ih=>
   intro p s h hi;rcases h1 p x r s h hi with hb | ⟨s',hb,hs,hi'⟩
   .exact zEa hb
   rw[zSa hb,hs];have:=ih (p++ [x]) s' (by simp[h]) (by simpa using hi');simpa using this
 rintro _ s rfl hi;exact key l [] s rfl hi
end
end
section
section
variable {α R O A S:Type}
def zZa(q:Nat->α->Option R):Nat->List α->Option R
 | _,[]=>none
 | i,x::r=>match q i x with | some y=>some y | none=>zZa q (i+1) r
theorem zNa(l:List α)(q:Nat->α->Option R)(oN:O)(oS:R->O){body:Int->Option (Step Int O)}(hl:body (l.length:Int)=some (.out oN))
 (hs:∀(i:Nat) x,l[i]? =some x->body (i:Int)=some ((q i x).elim (.cont ((i+1:Nat):Int)) fun r=>.out (oS r))):
 iter body 0=some ((zZa q 0 l).elim oN oS):=by
 have key:∀r p,l=p++r->iter body (p.length:Int)=some ((zZa q p.length r).elim oN oS):=by
  intro r;induction r with
  | nil=>
   intro p h;have:p=l:=by simp[h]
   subst this;exact zEa hl
  | cons x r ih=>
   intro p h;have hx:=hs p.length x (by simp[h]);unfold zZa;cases hq:q p.length x with
   | some y=>rw[hq]at hx;exact zEa hx
   | none=>
    rw[hq]at hx;rw[zSa hx];have:=ih (p++ [x]) (by simp[h]);simpa using this
 exact key l [] rfl
theorem Yva(l:List α)(enc:Int->S->A)(f:Nat->S->α->S)(out:S->O)(Inv:Nat->S->Prop){body:A->Option (Step A O)}
 (hl:∀s,Inv l.length s->body (enc l.length s)=some (.out (out s)))
 (hs:∀(i:Nat) x s,l[i]? =some x->Inv i s->body (enc i s)=some (.cont (enc ((i+1:Nat):Int) (f i s x)))/\Inv (i+1) (f i s x)) (s:S) (h0:Inv 0 s):
 ∃t,iter body (enc 0 s)=some (out t)/\Inv l.length t/\t=(l.zipIdx.foldl (fun s p=>f p.2 s p.1) s):=by
 have key:∀r p s,l=p++r->Inv p.length s->∃t,iter body (enc (p.length:Int) s)=some (out t)/\Inv l.length t/\t=((r.zipIdx p.length).foldl (fun s p=>f p.2 s p.1) s):=by
  intro r;induction r with
  | nil=>
   intro p s h hi;have:p=l:=by simp[h]
   subst this;exact ⟨s,zEa (hl s hi),hi,rfl⟩
  | cons x r ih=>
   intro p s h hi;obtain ⟨h1,h2⟩:=hs p.length x s (by simp[h]) hi;rw[zSa h1];obtain ⟨t,h3,h4,h5⟩:=ih (p++ [x]) (f p.length s x) (by simp[h]) (by simpa using h2);refine ⟨t,by simpa using h3,h4,?_⟩;rw[h5];simp
 exact key l [] s rfl h0
theorem zab(f:S->α->S)(l:List α):∀(n:Nat) (s:S),(l.zipIdx n).foldl (fun s p=>f s p.1) s=l.foldl f s:=by
 induction l with
 | nil=>intro n s;rfl
 | cons x r ih=>intro n s;simp[ih]
theorem Qsa(l:List α)(enc:Int->S->A)(f:S->α->S)(out:S->O)(Inv:Nat->S->Prop){body:A->Option (Step A O)}
 (hl:∀s,Inv l.length s->body (enc l.length s)=some (.out (out s)))
 (hs:∀(i:Nat) x s,l[i]? =some x->Inv i s->body (enc i s)=some (.cont (enc ((i+1:Nat):Int) (f s x)))/\Inv (i+1) (f s x)) (s:S) (h0:Inv 0 s):
 iter body (enc 0 s)=some (out (l.foldl f s))/\Inv l.length (l.foldl f s):=by
 obtain ⟨t,h1,h2,h3⟩:=Yva l enc (fun _=>f) out Inv hl hs s h0;have:t=l.foldl f s:=by rw[h3];exact zab f l 0 s
 subst this;exact ⟨h1,h2⟩
theorem yIa(c:α->Bool)(r:R)(l:List α)(n:Nat):zZa (fun _ x=>if c x then some r else none) n l=if l.any c then some r else none:=by
 induction l generalizing n with
 | nil=>rfl
 | cons x l ih=>unfold zZa;cases h:c x <;> simp[h,ih]
theorem qva{q:Nat->α->Option R}{l:List α}{n:Nat}:zZa q n l=none↔∀(i:Nat) x,l[i]? =some x->q (n+i) x=none:=by
 induction l generalizing n with
 | nil=>simp[zZa]
 | cons x l ih=>
  unfold zZa;cases h:q n x with
  | some y=>
   simp only[reduceCtorEq,false_iff];intro hh;have:=hh 0 x rfl;rw[Nat.add_zero,h]at this;cases this
  | none=>
   rw[ih];constructor
   .intro hh i y hy;cases i with
    | zero=>simp at hy;subst hy;exact h
    | succ i=>rw[show n+(i+1)=n+1+i by omega];exact hh i y (by simpa using hy)
   intro hh i y hy;rw[show n+1+i=n+(i+1) by omega];exact hh (i+1) y (by simpa using hy)
theorem j8a{q:Nat->α->Option R}{l:List α}{n:Nat}{r:R}(h:zZa q n l=some r):∃(i:Nat) (x:α),l[i]? =some x/\q (n+i) x=some r:=by
 induction l generalizing n with
 | nil=>cases h
 | cons x l ih=>
  unfold zZa at h;cases hq:q n x with
  | some y=>rw[hq]at h;cases h;exact ⟨0,x,rfl,hq⟩
  | none=>
   rw[hq]at h;obtain ⟨i,y,h1,h2⟩:=ih h;exact ⟨i+1,y,by simpa using h1,by rw[show n+(i+1)=n+1+i by omega];exact h2⟩
theorem zBa{l:List α}{i:Nat}{x:α}(h:l[i]? =some x):i < l.length:=(List.getElem?_eq_some_iff.1 h).1
theorem zPa{l:List α}{i:Nat}{x:α}(h:l[i]? =some x):decide ((i:Int) < (l.length:Int))=true:=by have:=zBa h;simp;omega
theorem zAa(l:List α):decide ((l.length:Int) < (l.length:Int))=false:=by simp
theorem zqa{l:List α}{i:Nat}{x:α}(h:l[i]? =some x):idx l (i:Int)=some x:=by rw[Wia];exact h
end
end
def Wka(c:UInt8):Bool:=(decide (97<=c) && decide (c<=122)) || (decide (65<=c) && decide (c<=90)) || (decide (48<=c) && decide (c<=57))
def yva(c:UInt8):Bool:=(decide (97<=c) && decide (c<=122)) || (decide (48<=c) && decide (c<=57)) || c==45 || c==46
def Vya(c:UInt8):Bool:=Wka c || c==45 || c==95 || c==46 || c==43 || c==61
def Zka:Bool->Str->Bool
 | p,[]=> !p
 | p,c::r=>if c=46 then !p && Zka true r else Zka false r
def domP(s:Str):Bool:=decide (s.length<=60) && s.all yva && Zka true s
def atP(s:Str):Nat:=s.findIdx (· ==64)
def Q4a(s:Str):Bool:=decide (atP s < s.length) && decide (1<=atP s) && decide (atP s<=60) && (s.take (atP s)).all Vya && domP (s.drop (atP s+1))
theorem Zla(k:Nat)(c:UInt8)(hk:OfNat.ofNat k < 256):decide ((no_index (OfNat.ofNat k:Int))<=(c.toNat:Int))=decide ((OfNat.ofNat k:UInt8)<=c):=by
 have e:(OfNat.ofNat k:Int)=((OfNat.ofNat k:Nat):Int):=rfl;have h2:(OfNat.ofNat k:UInt8).toNat=(OfNat.ofNat k:Nat):=by
  show (UInt8.ofNat k).toNat=k;rw[UInt8.toNat_ofNat'];exact Nat.mod_eq_of_lt hk
 rw[Bool.eq_iff_iff,decide_eq_true_eq,decide_eq_true_eq,UInt8.le_iff_toNat_le,h2,e];omega
theorem Zma(k:Nat)(c:UInt8)(hk:OfNat.ofNat k < 256):decide ((c.toNat:Int)<=(no_index (OfNat.ofNat k:Int)))=decide (c<=(OfNat.ofNat k:UInt8)):=by
 have e:(OfNat.ofNat k:Int)=((OfNat.ofNat k:Nat):Int):=rfl;have h2:(OfNat.ofNat k:UInt8).toNat=(OfNat.ofNat k:Nat):=by
  show (UInt8.ofNat k).toNat=k;rw[UInt8.toNat_ofNat'];exact Nat.mod_eq_of_lt hk
 rw[Bool.eq_iff_iff,decide_eq_true_eq,decide_eq_true_eq,UInt8.le_iff_toNat_le,h2,e];omega
theorem vya(a b c:Int):R_In a b c=some (decide (b<=a) && decide (a<=c)):=by
 unfold R_In;cases decide (b<=a) <;> rfl
theorem jpa(c:UInt8):qJa c=some (Wka c):=by
 unfold qJa Wka;simp only[vya,Option.bind_some,Zla 97 c (by decide),Zma 122 c (by decide),Zla 65 c (by decide),Zma 90 c (by decide),Zla 48 c (by decide),Zma 57 c (by decide)];generalize (decide ((97:UInt8)<=c) && decide (c<=122))=x;generalize (decide ((65:UInt8)<=c) && decide (c<=90))=y;cases x <;> cases y <;> simp
theorem ZOa(c:UInt8):wia c=some (Wka c):=by
 unfold wia Wka;simp only[Zla 97 c (by decide),Zma 122 c (by decide),Zla 65 c (by decide),Zma 90 c (by decide),Zla 48 c (by decide),Zma 57 c (by decide)];cases decide ((97:UInt8)<=c) <;> cases decide (c<=122) <;> cases decide ((65:UInt8)<=c) <;> cases decide (c<=90) <;> cases decide ((48:UInt8)<=c) <;> cases decide (c<=57) <;> rfl
def yoa(s:Str)(i:Nat):Bool:=if i=0 then true else s[i - 1]? ==some 46
def wUa:Bool->Str->Bool
 | _,[]=>true
 | p,c::r=>if c=46 then !p && !r.isEmpty && wUa true r else yva c && wUa false r
theorem zbb(p:Bool)(c:UInt8)(r:Str):wUa p (c::r)=if c=46 then !p && !r.isEmpty && wUa true r else yva c && wUa false r:=rfl
theorem qJb(s:Str)(p:Bool)(h:s≠ []∨p=false):wUa p s=(s.all yva && Zka p s):=by
 induction s generalizing p with
 | nil=>simp[wUa,Zka];rcases h with h | h <;> simp_all
 | cons c r ih=>
  unfold wUa Zka;by_cases hc:c=46
  .subst hc;simp only[if_true,List.all_cons,show yva 46=true by decide,Bool.true_and];cases r with
   | nil=>simp[Zka]
   | cons d r=>
    rw[ih true (.inl (by simp))];cases p <;> simp
  rw[if_neg hc,if_neg hc];rw[ih false (.inr rfl),List.all_cons,Bool.and_assoc]
theorem Wla(s:Str)(hs:s.length<=9223372036854775806):iter (qXa s) 0=some (if wUa true s then .inl () else .inr false):=by
 have:=ZNa (body:=qXa s) s (fun i (_:Unit)=>(i:Int)) (fun i r _=>if wUa (yoa s i) r then .inl () else .inr false) (fun _=>by
  unfold qXa;rw[zAa];simp[wUa]) (fun p c r _ h=>?_) (s0:=0) () rfl
 .simpa[yoa]using this
 have hc:s[p.length]? =some c:=by simp[h]
 have hidx:=zqa hc;have hlen:s.length=p.length+r.length+1:=by rw[h];simp;omega
 have e1:w64 ((s.length:Int) - 1)=((s.length - 1:Nat):Int):=by rw[qGa (by omega) (by omega)];omega
 have e2:w64 ((p.length:Int)+1)=((p.length+1:Nat):Int):=by rw[show ((p.length:Int)+1)=((p.length+1:Nat):Int) by omega,Jga _ (by omega)]
 have hbody:qXa s (p.length:Int)=some (if c=46 then (if yoa s p.length || r.isEmpty then .out (.inr false) else .cont ((p.length+1:Nat):Int)) else if yva c then .cont ((p.length+1:Nat):Int) else .out (.inr false)):=by
  unfold qXa;rw[zPa hc,hidx];simp only[cond_true,Option.bind_some,vya,jfa c 46 (by decide),Wha c 45 (by decide),Wha c 46 (by decide),Zla 97 c (by decide),Zma 122 c (by decide),Zla 48 c (by decide),Zma 57 c (by decide),e1,e2];by_cases h46:c=46
  .subst h46;have hsm:(!(decide ((97:UInt8)<=46) && decide ((46:UInt8)<=122)))=true:=by decide
   have hsm2:(!(decide ((48:UInt8)<=46) && decide ((46:UInt8)<=57)))=true:=by decide
   simp only[beq_self_eq_true,cond_true,hsm,hsm2,if_true,bne_self_eq_false];by_cases h0:p.length=0
   .simp[h0,yoa]
   have h0' :((p.length:Int)==0)=false:=by rw[beq_eq_false_iff_ne];omega
   by_cases hl:r=[]
   .subst hl;have:((p.length:Int)==((s.length - 1:Nat):Int))=true:=by rw[hlen];simp
    simp[h0',this]
   have hr:r.isEmpty=false:=by simpa using hl
   have hrl:0 < r.length:=List.length_pos_iff.2 hl;have:((p.length:Int)==((s.length - 1:Nat):Int))=false:=by rw[hlen];simp;omega
   have e3:w64 ((p.length:Int) - 1)=((p.length - 1:Nat):Int):=by rw[qGa (by omega) (by omega)];omega
   have hlt:p.length - 1 < s.length:=by omega
   simp only[h0',this,cond_false,e3,Yua hlt,Option.bind_some,hr,Bool.or_false,yoa,if_neg h0,List.getElem?_eq_getElem hlt];rw[jfa _ 46 (by decide)];by_cases hd:s[p.length - 1]=46
   .simp[hd]
   have:(s[p.length - 1]==46)=false:=by simpa using hd
   simp[this,hd]
  have h1:(c==46)=false:=by simpa using h46
  have h2:(c !=46)=true:=by simpa using h46
  simp only[h1,cond_false,if_neg h46,Option.bind_some,yva,h2];by_cases ha:(decide ((97:UInt8)<=c) && decide (c<=122))=true
  .simp[ha]
  have ha:(decide ((97:UInt8)<=c) && decide (c<=122))=false:=by simpa using ha
  by_cases hb:(decide ((48:UInt8)<=c) && decide (c<=57))=true
  .simp[ha,hb]
  have hb:(decide ((48:UInt8)<=c) && decide (c<=57))=false:=by simpa using hb
  by_cases h45:c=45
  .subst h45;simp[ha,hb]
  have:(c==45)=false:=by simpa using h45
  simp[ha,hb,this,bne]
 have hp1:yoa s (p.length+1)=decide (c=46):=by
  unfold yoa;simp only[Nat.add_sub_cancel,Nat.add_one_ne_zero,if_false,hc];rw[Bool.eq_iff_iff];simp
 rw[hbody];rw[zbb];by_cases h46:c=46
 .subst h46;simp only[if_true];cases hq:(yoa s p.length || r.isEmpty) with
  | true=>
   left;simp only[if_true];have:(!yoa s p.length && !r.isEmpty && wUa true r)=false:=by
    cases hp:yoa s p.length <;> simp_all
   rw[this];rfl
  | false=>
   right;refine ⟨(),rfl,?_⟩;have h3:yoa s p.length=false:=by cases hp:yoa s p.length <;> simp_all
   have h4:r.isEmpty=false:=by cases hp:r.isEmpty <;> simp_all
   rw[h3,h4,hp1];simp
 simp only[if_neg h46];cases hq:yva c with
 | true=>right;exact ⟨(),rfl,by rw[hp1];simp[h46]⟩
 | false=>left;simp
theorem Jia(s:Str)(hs:s.length<=9223372036854775806):jHa s=some (domP s):=by
 unfold jHa;rw[Wla s hs];by_cases hn:s=[]
 .subst hn;simp[wUa,vya,domP,Zka]
 rw[qJb s true (.inl hn)];have hpos:0 < s.length:=List.length_pos_iff.2 hn;unfold domP;cases h:(s.all yva && Zka true s) with
 | false=>
  rw[Bool.and_assoc,h];simp
 | true=>
  rw[Bool.and_assoc,h];simp only[if_true,Option.bind_some,vya,Bool.and_true,Sum.elim_inl,Option.some.injEq];rw[Bool.eq_iff_iff];simp;omega
theorem zcb(s:Str)(hs:s.length<=9223372036854775806):Yra s=some ((atP s:Nat):Int):=by
 unfold Yra;rw[zNa s (fun i c=>if c==64 then some (i:Int) else none) (.inl ()) .inr]
 .simp only[Option.bind_some];have key:∀(r:Str) (n:Nat),(zZa (fun i (c:UInt8)=>if c==64 then some (i:Int) else none) n r).getD ((n+r.length:Nat):Int)=((n+r.findIdx (· ==64):Nat):Int):=by
   intro r;induction r with
   | nil=>intro n;simp[zZa]
   | cons c r ih=>
    intro n;unfold zZa;rw[List.findIdx_cons];cases hc:(c==64) with
    | true=>simp
    | false=>
     simp only[Bool.false_eq_true,if_false,cond_false];have:=ih (n+1);rw[show n+(c::r).length=n+1+r.length by simp;omega,show n+(r.findIdx (· ==64)+1)=n+1+r.findIdx (· ==64) by omega];exact this
  have:=key s 0;rw[Nat.zero_add,Nat.zero_add]at this;unfold atP;rw[<-this];cases zZa (fun i (c:UInt8)=>if c==64 then some (i:Int) else none) 0 s <;> rfl
 .unfold Qka;rw[zAa];rfl
 intro i c hc;unfold Qka;have hi:=zBa hc;rw[zPa hc,zqa hc];simp only[cond_true,Option.bind_some,jfa c 64 (by decide)];cases c==64 with
 | true=>rfl
 | false=>
  simp only[cond_false,Bool.false_eq_true,if_false];rw[show ((i:Int)+1)=((i+1:Nat):Int) by omega,Jga _ (by omega)];rfl
theorem KBa(s:Str)(hs:s.length<=9223372036854775806):wRa s=some (Q4a s):=by
 have hat:atP s<=s.length:=List.findIdx_le_length;unfold wRa;rw[zcb s hs];simp only[Option.bind_some];have hloop:iter (vUa s (atP s:Int)) 0=some ((zZa (fun _ c=>if !Vya c then some false else none) 0 (s.take (atP s))).elim (.inl ()) .inr):=by
  refine zNa (s.take (atP s)) _ (Sum.inl ()) Sum.inr ?_ ?_
  .have:((s.take (atP s)).length:Int)=(atP s:Int):=by simp;omega
   unfold vUa;rw[this];simp
  intro i c hc;have hi:=zBa hc;simp at hi;have hc2:s[i]? =some c:=by rw[List.getElem?_take_of_lt (by omega)]at hc;exact hc
  unfold vUa;have:decide ((i:Int) < (atP s:Int))=true:=by simp;omega
  rw[this,zqa hc2];simp only[cond_true,Option.bind_some,jpa,Wha c 45 (by decide),Wha c 95 (by decide),Wha c 46 (by decide),Wha c 43 (by decide),Wha c 61 (by decide)];rw[show ((i:Int)+1)=((i+1:Nat):Int) by omega,Jga _ (by omega)];unfold Vya;cases Wka c <;> cases h1:(c==45) <;> cases h2:(c==95) <;> cases h3:(c==46) <;> cases h4:(c==43) <;> cases h5:(c==61) <;> simp[bne,h1,h2,h3,h4,h5]
 rw[hloop,yIa];unfold Q4a;have hall:(s.take (atP s)).any (fun c=> !Vya c)= !((s.take (atP s)).all Vya):=by simp[List.not_all_eq_any_not]
 rw[hall];cases hg:(s.take (atP s)).all Vya with
 | false=>simp
 | true=>
  simp only[Bool.not_true,Bool.false_eq_true,if_false,Option.bind_some,vya,Bool.and_true];by_cases h1:1<=atP s/\atP s<=60
  .have e1:(decide ((1:Int)<=(atP s:Int)) && decide ((atP s:Int)<=60))=true:=by simp;omega
   rw[e1];by_cases h2:atP s < s.length
   .have e2:decide ((atP s:Int) < (s.length:Int))=true:=by simp;omega
    rw[e2];simp only[cond_true];rw[show ((atP s:Int)+1)=((atP s+1:Nat):Int) by omega,Jga _ (by omega),Vma (by omega)];simp only[Option.bind_some];rw[Jia _ (by simp;omega)];simp[h1,h2]
   have e2:decide ((atP s:Int) < (s.length:Int))=false:=by simp;omega
   rw[e2];simp[h2]
  have e1:(decide ((1:Int)<=(atP s:Int)) && decide ((atP s:Int)<=60))=false:=by
   rw[Bool.eq_false_iff];simp;omega
  rw[e1];simp only[cond_false,Option.bind_some]
  congr 1
  symm
  rcases Nat.lt_or_ge (atP s) 1 with h | h
  .have:decide (1<=atP s)=false:=by simp;omega
   rw[this];simp
  have:decide (atP s<=60)=false:=by simp;omega
  rw[this];simp
theorem Jja(s:Str):∀p,Zka p s=(!(p && (s.isEmpty || s.head? ==some 46)) && !(s.getLast? ==some 46) && !Lib.contains s [46,46]):=by
 induction s with
 | nil=>intro p;cases p <;> simp[Zka,Lib.contains,Lib.index]
 | cons c r ih=>
  intro p;have hcont:Lib.contains (c::r) [46,46]=((c==46 && r.head? ==some 46) || Lib.contains r [46,46]):=by
   unfold Lib.contains;rw[Lib.index];have hpre:([46,46]:List UInt8).isPrefixOf (c::r)=(c==46 && r.head? ==some 46):=by
    cases r with
    | nil=>simp[List.isPrefixOf]
    | cons d r=>simp only[List.isPrefixOf,List.head?_cons,Bool.and_true];rw[Bool.eq_iff_iff];simp;constructor <;> rintro ⟨rfl,rfl⟩ <;> exact ⟨rfl,rfl⟩
   rw[hpre];have hg:=Lib.index_ge r [46,46];cases c==46 && r.head? ==some 46 with
   | true=>simp
   | false=>
    simp only[Bool.false_eq_true,if_false,Bool.false_or];by_cases h:Lib.index r [46,46]= -1
    .simp[h]
    have:(Lib.index r [46,46]== -1)=false:=by simpa using h
    rw[this];simp only[Bool.false_eq_true,if_false];rw[Bool.eq_iff_iff];simp;omega
  rw[hcont,Zka];have hlast:(c::r).getLast? =if r.isEmpty then some c else r.getLast? :=by cases r <;> simp
  rw[hlast];by_cases hc:c=46
  .subst hc;rw[if_pos rfl,ih true];cases r with
   | nil=>simp
   | cons d r=>cases p <;> cases hd:(d==46) <;> simp_all [Bool.and_comm,Bool.and_assoc,Bool.and_left_comm]
  have h1:(c==46)=false:=by simpa using hc
  have h2:(some c==some (46:UInt8))=false:=by simpa using hc
  rw[if_neg hc,ih false];cases r with
  | nil=>simp[h1,h2,Lib.contains,Lib.index,hc]
  | cons d r=>simp[h1,h2,hc]
theorem Kla(s t:Str):kDa s t=some (t.isPrefixOf s):=by
 unfold kDa kfa;by_cases h:t.length<=s.length
 .have:decide ((t.length:Int)<=(s.length:Int))=true:=by simp;omega
  rw[this,Wja h];simp only[cond_true,Option.bind_some,Option.some.injEq];rw[Bool.eq_iff_iff,beq_iff_eq,List.isPrefixOf_iff_prefix,List.prefix_iff_eq_take];constructor <;> exact fun h=>h.symm
 have:decide ((t.length:Int)<=(s.length:Int))=false:=by simp;omega
 rw[this];simp only[cond_false,Option.bind_some,Option.some.injEq]
 symm
 rw[Bool.eq_false_iff];intro hp;exact h (List.isPrefixOf_iff_prefix.1 hp).length_le
theorem Kma(s t:Str)(hs:s.length<=9223372036854775806):kEa s t=some (t.isSuffixOf s):=by
 unfold kEa kga;by_cases h:t.length<=s.length
 .have:decide ((t.length:Int)<=(s.length:Int))=true:=by simp;omega
  rw[this,w64_ns _ _ h (by omega),Vma (by omega)];simp only[cond_true,Option.bind_some,Option.some.injEq];rw[Bool.eq_iff_iff,beq_iff_eq,List.isSuffixOf_iff_suffix,List.suffix_iff_eq_drop];constructor <;> exact fun h=>h.symm
 have:decide ((t.length:Int)<=(s.length:Int))=false:=by simp;omega
 rw[this];simp only[cond_false,Option.bind_some,Option.some.injEq]
 symm
 rw[Bool.eq_false_iff];intro hp;exact h (List.isSuffixOf_iff_suffix.1 hp).length_le
theorem dom_char(c:UInt8):((bif decide ((97:UInt8)<=c) then (bif decide (c<=122) then some true else (bif decide ((48:UInt8)<=c) then (bif decide (c<=57) then some true else (bif (c==45) then some true else some (c==46))) else (bif (c==45) then some true else some (c==46)))) else (bif decide ((48:UInt8)<=c) then (bif decide (c<=57) then some true else (bif (c==45) then some true else some (c==46))) else (bif (c==45) then some true else some (c==46)))):Option Bool)=some (yva c):=by
 unfold yva;cases decide ((97:UInt8)<=c) <;> cases decide (c<=122) <;> cases decide ((48:UInt8)<=c) <;> cases decide (c<=57) <;> cases (c==45) <;> rfl
theorem Qta(s:Str)(hs:s.length < 4294967281):voa s=some (domP s):=by
 have hloop:iter (qda s) 0=some ((zZa (fun _ c=>if !yva c then some () else none) 0 s).elim (.inl ()) .inr):=by
  refine zNa s _ (Sum.inl ()) Sum.inr ?_ ?_
  .unfold qda;rw[zAa];rfl
  intro i c hc;have hi:=zBa hc;unfold qda;rw[zPa hc,zqa hc];simp only[cond_true,Option.bind_some,jfa c 45 (by decide),jfa c 46 (by decide),Zla 97 c (by decide),Zma 122 c (by decide),Zla 48 c (by decide),Zma 57 c (by decide),dom_char];rw[show ((i:Int)+1)=((i+1:Nat):Int) by omega,Jga _ (by omega)];cases yva c <;> rfl
 unfold voa domP;rw[hloop,yIa,Jja];by_cases hn:s=[]
 .subst hn;simp
 have h1:(s !=([]:Str))=true:=by simpa using hn
 rw[h1];simp only[cond_true];by_cases hl:s.length<=60
 .have h2:decide ((s.length:Int)<=60)=true:=by simp;omega
  rw[h2];have hall:s.any (fun c=> !yva c)= !(s.all yva):=by simp[List.not_all_eq_any_not]
  rw[hall];cases hg:s.all yva with
  | false=>simp[hl]
  | true=>
   simp only[Bool.not_true,Bool.false_eq_true,if_false,Option.elim,Option.bind_some,cond_true,Kla,Kma s [46] (by omega),kMa,if_pos hs];have hp:([46]:Str).isPrefixOf s=(s.head? ==some 46):=by
    cases s with
    | nil=>rfl
    | cons d r=>simp only[List.isPrefixOf,List.head?_cons,Bool.and_true];rw[Bool.eq_iff_iff];simp;exact ⟨fun h=>h.symm,fun h=>h.symm⟩
   have hsf:([46]:Str).isSuffixOf s=(s.getLast? ==some 46):=by
    rw[Bool.eq_iff_iff,List.isSuffixOf_iff_suffix,beq_iff_eq];constructor
    .rintro ⟨t,rfl⟩;simp
    intro h;obtain ⟨ys,rfl⟩:=List.getLast?_eq_some_iff.1 h;exact ⟨ys,rfl⟩
   have he:s.isEmpty=false:=by simpa using hn
   rw[hp,hsf,he];cases s.head? ==some 46 <;> cases s.getLast? ==some 46 <;> cases Lib.contains s [46,46] <;> simp[hl]
 have h2:decide ((s.length:Int)<=60)=false:=by simp;omega
 rw[h2];simp[hl]
theorem Jka(s:Str):Lib.index s [64]=if atP s < s.length then (atP s:Int) else -1:=by
 rw[Lib.index_one];unfold atP;induction s with
 | nil=>rfl
 | cons c r ih=>
  rw[Lib.indexByte,List.findIdx_cons];cases hc:(c==64) with
  | true=>simp
  | false=>
   simp only[Bool.false_eq_true,if_false,cond_false,List.length_cons];rw[ih];by_cases h:r.findIdx (· ==64) < r.length
   .simp only[if_pos h,if_pos (show r.findIdx (· ==64)+1 < r.length+1 by omega)];have:(((r.findIdx (· ==64):Nat):Int)== -1)=false:=by rw[beq_eq_false_iff_ne];omega
    rw[this];simp
   simp only[if_neg h,if_neg (show ¬(r.findIdx (· ==64)+1 < r.length+1) by omega)];simp
theorem cut_at(s:Str):Lib.cut s [64]=if atP s < s.length then (s.take (atP s),s.drop (atP s+1),true) else (s,[],false):=by
 unfold Lib.cut;rw[Jka];by_cases h:atP s < s.length
 .rw[if_pos h,if_pos h,if_pos (by omega)];simp
 rw[if_neg h,if_neg h,if_neg (by omega)]
def Ywa(s:Str):Str × Str × Bool:=if atP s < s.length then (s.take (atP s),s.drop (atP s+1),Q4a s) else (s,[],false)
theorem v2b(c:UInt8):(Wka c || decide (0<=Lib.indexByte [45,95,46,43,61] c))=Vya c:=by
 unfold Vya;by_cases h1:c=45
 .subst h1;decide
 by_cases h2:c=95
 .subst h2;decide
 by_cases h3:c=46
 .subst h3;decide
 by_cases h4:c=43
 .subst h4;decide
 by_cases h5:c=61
 .subst h5;decide
 rw[beq_eq_false_iff_ne.2 h1,beq_eq_false_iff_ne.2 h2,beq_eq_false_iff_ne.2 h3,beq_eq_false_iff_ne.2 h4,beq_eq_false_iff_ne.2 h5];simp[Lib.indexByte,Ne.symm h1,Ne.symm h2,Ne.symm h3,Ne.symm h4,Ne.symm h5]
theorem jSa(s:Str)(hs:s.length < 4294967281):vca s=some (Ywa s):=by
 have hloop:∀v:Str × Str × Bool,v.1.length < 4294967281->iter (qLa v) 0=some ((zZa (fun _ c=>if !Vya c then some () else none) 0 v.1).elim (.inl ()) .inr):=by
  intro v hv;refine zNa v.1 _ (Sum.inl ()) Sum.inr ?_ ?_
  .unfold qLa;rw[zAa];rfl
  intro i c hc;have hi:=zBa hc;unfold qLa;rw[zPa hc,zqa hc];simp only[cond_true,Option.bind_some,ZOa,z5a];rw[show ((i:Int)+1)=((i+1:Nat):Int) by omega,Jga _ (by omega)];have hg:=v2b c;cases hl:Wka c with
  | true=>rw[hl]at hg;simp only[Bool.true_or]at hg;rw[<-hg];rfl
  | false=>rw[hl]at hg;simp only[Bool.false_or]at hg;rw[<-hg];cases decide (0<=Lib.indexByte [45,95,46,43,61] c) <;> rfl
 unfold vca wca;rw[if_pos hs,cut_at];simp only[Option.bind_some];unfold Ywa;by_cases h:atP s < s.length
 .simp only[if_pos h,cond_true];rw[hloop _ (by simp;omega),yIa];have hall:(s.take (atP s)).any (fun c=> !Vya c)= !((s.take (atP s)).all Vya):=by simp[List.not_all_eq_any_not]
  simp only[hall];have hlen:(s.take (atP s)).length=atP s:=by simp;omega
  rw[hlen,Qta _ (by simp;omega)];unfold Q4a;by_cases h0:atP s=0
  .simp[h0]
  have hne:(s.take (atP s) !=([]:Str))=true:=by
   simp only[bne_iff_ne,ne_eq];intro hx;have:=congrArg List.length hx;rw[hlen]at this;simp at this;omega
  rw[hne];by_cases h60:atP s<=60
  .have e:decide ((atP s:Int)<=60)=true:=by simp;omega
   rw[e];cases (s.take (atP s)).all Vya <;> simp[h,h60] <;> omega
  have e:decide ((atP s:Int)<=60)=false:=by simp;omega
  rw[e];simp[h60]
 simp[if_neg h]
theorem kdb(s:Str):(Ywa s).2.2=Q4a s:=by
 unfold Ywa;by_cases h:atP s < s.length
 .rw[if_pos h]
 rw[if_neg h];unfold Q4a;simp[h]
theorem y8a(s:Str)(hs:s.length < 4294967281):k6a s=some (Q4a s):=by
 unfold k6a;rw[jSa s hs];simp[kdb]
section
theorem v3b{α:Type}(c:α->Bool)(l:List α):∀n:Nat,decide ((0:Int)<=(zZa (fun i x=>if c x then some ((i:Nat):Int) else none) n l).getD (-1))=l.any c:=by
 induction l with
 | nil=>intro n;rfl
 | cons x l ih=>
  intro n;unfold zZa;cases hc:c x with
  | true=>simp[hc]
  | false=>simp only[Bool.false_eq_true,if_false,List.any_cons,hc,Bool.false_or];exact ih (n+1)
theorem Qua(o:Option Int):Sum.elim (fun _=>some (-1)) (fun b=>some b) (o.elim (Sum.inl ()) Sum.inr:Unit ⊕ Int)=some (o.getD (-1)):=by cases o <;> rfl
theorem sc(i:Nat)(h:i < 9223372036854775807):w64 ((i:Int)+1)=((i+1:Nat):Int):=by rw[show ((i:Int)+1)=((i+1:Nat):Int) by omega,Jga _ (by omega)]
theorem bkL_pos{T:Type}(bk:T->Nat)(l:List T):1<=bkL bk l:=by
 induction l with
 | nil=>simp[bkL]
 | cons y l ih=>unfold bkL;omega
theorem Jla{T:Type}{bk:T->Nat}{l:List T}{x:T}(h:x∈l):bk x+1<=bkL bk l:=by
 induction l with
 | nil=>cases h
 | cons y l ih=>
  unfold bkL;have hp:=bkL_pos bk l;rcases List.mem_cons.1 h with rfl | h
  .omega
  have:=ih h;omega
theorem KTa{T:Type}{bk:T->Nat}(hb:∀x,1<=bk x)(l:List T):l.length+1<=bkL bk l:=by
 induction l with
 | nil=>simp[bkL]
 | cons y l ih=>unfold bkL;have:=hb y;simp;omega
section
variable {α:Type}
end
theorem qKb{V:Type}(m:List (Str × V))(k:Str)(v:V)(x:Str):mget (mput m k v) x=if k==x then some v else mget m x:=by
 induction m with
 | nil=>rfl
 | cons p m ih=>
  obtain ⟨k',v'⟩:=p;unfold mput;by_cases h:k' =k
  .subst h;simp only[beq_self_eq_true,if_true,mget];cases k' ==x <;> simp
  have h1:(k' ==k)=false:=by simpa using h
  rw[h1];simp only[Bool.false_eq_true,if_false,mget];rw[ih];by_cases h2:k' =x
  .subst h2;have:(k==k')=false:=by simpa using fun h' =>h h'.symm
   simp[this]
  have:(k' ==x)=false:=by simpa using h2
  rw[this];simp
section
variable {α A S O:Type}
end
end
theorem KCa(o:Option Unit)(a b:Bool):Sum.elim (fun _=>some a) (fun _=>some b) (o.elim (Sum.inl ()) Sum.inr:Unit ⊕ Unit)=some (bif o.isSome then b else a):=by cases o <;> rfl
theorem j9a{α R:Type}(c:α->Bool)(r:R)(l:List α)(n:Nat):(zZa (fun _ x=>if c x then some r else none) n l).isSome=l.any c:=by
 rw[yIa];cases l.any c <;> rfl
theorem Jma{α:Type}(l:List α)(p:α->Bool):l.any (fun x=> !p x)= !l.all p:=by simp[List.not_all_eq_any_not]
theorem wVa(a b:Int):R_At a b=some ⟨a,b⟩:=rfl
theorem zWa(a b:Int):zra a b=some ⟨a,b⟩:=rfl
theorem kwa:kqa=some ⟨0,0⟩:=rfl
theorem kja(f:zpa):kba f=some (f.Code !=0):=rfl
theorem Q5a(o:Option zpa)(f:zpa):Sum.elim (fun _=>some f) (fun b=>some b) (o.elim (Sum.inl ()) Sum.inr:Unit ⊕ zpa)=some (o.getD f):=by cases o <;> rfl
def keb(c:UInt8):Bool:=Wka c || c==45 || c==95 || c==46
def kfb(s:Str):Bool:=decide (1<=s.length) && decide (s.length<=60) && s.all keb
theorem kgb(s:Str)(hs:s.length<=1048576):Qla s=some (kfb s):=by
 unfold Qla;rw[zNa s (fun _ c=>if !keb c then some false else none) (.inl ()) .inr,yIa,Jma]
 .simp only[Option.bind_some,vya];unfold kfb;have e1:decide ((1:Int)<=(s.length:Int))=decide (1<=s.length):=by rw[Bool.eq_iff_iff];simp;omega
  have e2:decide ((s.length:Int)<=60)=decide (s.length<=60):=by rw[Bool.eq_iff_iff];simp;omega
  rw[<-e1,<-e2];cases s.all keb <;> simp
 .unfold j3a;rw[zAa];rfl
 intro i c hc;have hi:=zBa hc;unfold j3a;rw[zPa hc,zqa hc];simp only[cond_true,Option.bind_some,jpa,Wha c 45 (by decide),Wha c 95 (by decide),Wha c 46 (by decide),sc i (by omega)];unfold keb bne;cases Wka c <;> cases (c==45) <;> cases (c==95) <;> cases (c==46) <;> rfl
theorem Jna(s:Str)(hs:s.length<=1048576):jIa s=some (kfb s):=by
 have hloop:iter (wxa s) 0=some ((zZa (fun _ c=>if !keb c then some () else none) 0 s).elim (.inl ()) .inr):=by
  refine zNa s _ (Sum.inl ()) Sum.inr ?_ ?_
  .unfold wxa;rw[zAa];rfl
  intro i c hc;have hi:=zBa hc;unfold wxa;rw[zPa hc,zqa hc];simp only[cond_true,Option.bind_some,ZOa,jfa c 45 (by decide),jfa c 95 (by decide),jfa c 46 (by decide),sc i (by omega)];unfold keb;cases Wka c <;> cases (c==45) <;> cases (c==95) <;> cases (c==46) <;> rfl
 unfold jIa kfb;rw[hloop];simp only[Option.bind_some,KCa,j9a,Jma];by_cases hn:s=[]
 .subst hn;rfl
 have h1:(s !=([]:Str))=true:=by simpa using hn
 have h2:decide (1<=s.length)=true:=by have:=List.length_pos_iff.2 hn;simp;omega
 have e2:decide ((s.length:Int)<=60)=decide (s.length<=60):=by rw[Bool.eq_iff_iff];simp;omega
 rw[h1,h2,e2];cases decide (s.length<=60) <;> cases s.all keb <;> rfl
def v4b(n:Int):Bool:=decide (0<=n) && decide (n<=7)
def recQ(l:List zca)(i:Nat)(r:zca):Option zpa:=
 if !Q4a r.Address then some ⟨10,i⟩ else if !v4b r.Notify then some ⟨3,i⟩ else if (l.take i).any (fun x=>x.Address==r.Address) then some ⟨7,i⟩ else none
def recF(l:List zca):zpa:=(zZa (recQ l) 0 l).getD ⟨0,0⟩
def fromB(s:Str):Bool:=s !=([]:Str) && !Q4a s
def envF(e:zCa):zpa:=if fromB e.From then ⟨10, -10⟩ else if decide (e.To.length < 1) || decide (60 < e.To.length) then ⟨2, -11⟩ else if e.Id !=([]:Str) && !kfb e.Id then ⟨10, -12⟩ else recF e.To
def smallR(l:List zca):Prop:=l.length<=1048576/\∀a∈l,a.Address.length<=1048576
def Yxa(e:zCa):Prop:=e.From.length<=1048576/\e.Id.length<=1048576/\smallR e.To
theorem qLb(l:List zca)(s:Str)(hl:l.length<=1048576):Wfa l s=some ((zZa (fun i x=>if x.Address==s then some ((i:Nat):Int) else none) 0 l).getD (-1)):=by
 unfold Wfa;rw[zNa l (fun i x=>if x.Address==s then some ((i:Nat):Int) else none) (.inl ()) .inr]
 .simp only[Option.bind_some,Qua]
 .unfold Kha;rw[zAa];rfl
 intro i x hx;have hi:=zBa hx;unfold Kha;rw[zPa hx,zqa hx];simp only[cond_true,Option.bind_some,sc i (by omega)];cases x.Address==s <;> rfl
theorem Qva(n:Int):vqa n=some (v4b n):=by unfold vqa v4b;cases decide (0<=n) <;> rfl
theorem kWb(l:List zca)(i:Nat)(s:Str)(hl:l.length<=1048576):decide ((0:Int)<=(zZa (fun i x=>if x.Address==s then some ((i:Nat):Int) else none) 0 (l.take i)).getD (-1))=(l.take i).any (fun x=>x.Address==s):=v3b (fun x=>x.Address==s) (l.take i) 0
theorem Qwa(e:zCa)(h:Yxa e):vpa e=some (envF e):=by
 obtain ⟨h1,h2,h3,h4⟩:=h;unfold vpa envF;rw[KBa _ (by omega),kgb _ h2];have hloop:iter (qea e) 0=some ((zZa (recQ e.To) 0 e.To).elim (.inl ()) .inr):=by
  refine zNa e.To _ (Sum.inl ()) Sum.inr ?_ ?_
  .unfold qea;rw[zAa];rfl
  intro i r hr;have hi:=zBa hr;have ha:=h4 r (List.mem_of_getElem? hr);unfold qea recQ;rw[zPa hr,zqa hr];simp only[cond_true,Option.bind_some,KBa _ (show r.Address.length<=9223372036854775806 by omega),wVa,vya,Wja (Nat.le_of_lt hi),qLb _ _ (show (e.To.take i).length<=1048576 by simp;omega),kWb _ _ _ h3,sc i (by omega)];unfold v4b;cases Q4a r.Address <;> cases (decide (0<=r.Notify) && decide (r.Notify<=7)) <;> cases (e.To.take i).any (fun x=>x.Address==r.Address) <;> rfl
 rw[hloop];simp only[Option.bind_some,Q5a,vya,wVa];have e1:(!(decide ((1:Int)<=(e.To.length:Int)) && decide ((e.To.length:Int)<=60)))=(decide (e.To.length < 1) || decide (60 < e.To.length)):=by generalize e.To.length=n;rw[Bool.eq_iff_iff];simp;omega
 rw[e1];unfold fromB recF;cases e.From !=([]:Str) <;> cases Q4a e.From <;> cases (decide (e.To.length < 1) || decide (60 < e.To.length)) <;> cases e.Id !=([]:Str) <;> cases kfb e.Id <;> rfl
theorem Zsa(l:List zca)(h:smallR l):kXa l=some (recF l):=by
 obtain ⟨h3,h4⟩:=h;unfold kXa recF;rw[zNa l (recQ l) (.inl ()) .inr]
 .simp only[Option.bind_some,kwa,Q5a]
 .unfold k1a;rw[zAa];rfl
 intro i r hr;have hi:=zBa hr;have ha:=h4 r (List.mem_of_getElem? hr);have hl2:iter (kBa r (l.take i)) 0=some ((zZa (fun i x=>if x.Address==r.Address then some ((i:Nat):Int) else none) 0 (l.take i)).elim (.inl ()) .inr):=by
  refine zNa (l.take i) _ (Sum.inl ()) Sum.inr ?_ ?_
  .unfold kBa;rw[zAa];rfl
  intro k x hx;have hk:=zBa hx;simp at hk;unfold kBa;rw[zPa hx,zqa hx];simp only[cond_true,Option.bind_some,sc k (by omega)];cases x.Address==r.Address <;> rfl
 unfold k1a recQ;rw[zPa hr,zqa hr];simp only[cond_true,Option.bind_some,y8a _ (show r.Address.length < 4294967281 by omega),zWa,Qva,Wja (Nat.le_of_lt hi),hl2,Qua,kWb _ _ _ h3,sc i (by omega)];cases Q4a r.Address <;> cases v4b r.Notify <;> cases (l.take i).any (fun x=>x.Address==r.Address) <;> rfl
theorem Kna(e:zCa)(h:Yxa e):qMa e=some (envF e):=by
 obtain ⟨h1,h2,h3⟩:=h;unfold qMa envF;rw[y8a _ (by omega),Jna _ h2,Zsa _ h3];have e1:decide ((e.To.length:Int) < 1)=decide (e.To.length < 1):=by generalize e.To.length=n;rw[Bool.eq_iff_iff];simp;omega
 have e2:decide ((60:Int) < (e.To.length:Int))=decide (60 < e.To.length):=by rw[Bool.eq_iff_iff];simp;omega
 simp only[Option.bind_some,zWa,e1,e2];unfold fromB;cases e.From !=([]:Str) <;> cases Q4a e.From <;> cases decide (e.To.length < 1) <;> cases decide (60 < e.To.length) <;> cases e.Id !=([]:Str) <;> cases kfb e.Id <;> rfl
theorem v5b{e:zCa}(h:zCa.bk e<=1048576):Yxa e:=by
 unfold zCa.bk at h;dsimp only at h;refine ⟨by omega,by omega,?_,fun a ha=>?_⟩
 .have:=KTa (bk:=zca.bk) (fun x=>by unfold zca.bk;omega) e.To;omega
 have h5:=Jla (bk:=zca.bk) ha;have h6:zca.bk a=a.Address.length+1+1+1:=rfl;omega
theorem Joa(s:Str)(i:Nat)(h:i < s.length):(strB s)[i]'(by rw[koa];exact h)=s[i]:=rfl
theorem v6b(s:Str)(i:Nat)(h:i < s.length):(strB s).get! i=s[i]:=by
 have:=get_at (strB s) i (by rw[koa];exact h);rw[Nat.add_zero]at this;rw[this];rfl
theorem Yya{s:Str}{i:Nat}{c:UInt8}(h:s[i]? =some c)(hc:c.toNat < 128):Kva s i=(c.toNat:Int)/\jFa s i=1:=by
 have hi:=zBa h;have e:s[i]=c:=by rw[List.getElem?_eq_getElem hi]at h;exact Option.some.inj h
 have hd:=decode_ascii (strB s) i (by rw[koa];exact hi) (by rw[Joa s i hi,e];exact hc);unfold Kva jFa;rw[hd,Joa s i hi,e];exact ⟨rfl,rfl⟩
theorem v7b{s:Str}{i:Nat}{c:UInt8}(h:s[i]? =some c)(hc:128<=c.toNat):128<=Kva s i/\Kva s i<=2147483647/\1<=jFa s i:=by
 have hi:=zBa h;have e:s[i]=c:=by rw[List.getElem?_eq_getElem hi]at h;exact Option.some.inj h
 have hd:=decode_high (strB s) i (by rw[koa];exact hi) (by rw[Joa s i hi,e];exact hc);have hl:=decode_le (strB s) i;unfold Kva jFa;exact ⟨by omega,by omega,hd.2⟩
theorem khb(s:ByteArray)(pos:Nat):∀k,1<=k->k < (Utf8.decode s pos).2->(s.get! (pos+k)).toNat / 64=2:=by
 intro k h1 h2;simp only[Utf8.decode]at h2;repeat' split at h2
 all_goals first
  | (exfalso;simp at h2;omega)
  | (
   rename_i hq _;simp only[Bool.and_eq_true,decide_eq_true_eq,beq_iff_eq]at hq;have h2:k < 2:=h2;obtain rfl:k=1:=by omega
   exact hq.2.2)
  | (
   rename_i hq _;simp only[Bool.and_eq_true,decide_eq_true_eq,beq_iff_eq]at hq;have h2:k < 3:=h2;have:k=1∨k=2:=by omega
   rcases this with rfl | rfl
   .exact hq.1.2.2
   exact hq.2.2)
  | (
   rename_i hq _;simp only[Bool.and_eq_true,decide_eq_true_eq,beq_iff_eq]at hq;have h2:k < 4:=h2;have:k=1∨k=2∨k=3:=by omega
   rcases this with rfl | rfl | rfl
   .exact hq.1.1.2.2
   .exact hq.1.2.2
   exact hq.2.2)
theorem v8b{s:Str}{i j:Nat}{c d:UInt8}(h:s[i]? =some c)(hc:128<=c.toNat)(h1:i<=j)(h2:j < i+jFa s i)(hj:s[j]? =some d):128<=d.toNat:=by
 by_cases e:j=i
 .subst e;rw[h]at hj;cases hj;exact hc
 have hjl:=zBa hj;have e2:s[j]=d:=by rw[List.getElem?_eq_getElem hjl]at hj;exact Option.some.inj hj
 have:=khb (strB s) i (j - i) (by omega) (by unfold jFa at h2;omega);rw[show i+(j - i)=j by omega,v6b s j hjl,e2]at this;omega
theorem toU8_nat(c:UInt8):toU8 (c.toNat:Int)=c:=by
 unfold toU8;have:=c.toNat_lt;rw[show ((c.toNat:Int) % 256).toNat=c.toNat by omega];simp
theorem Yza{t:Str}(h:Ysa t=true){c:UInt8}(hc:c∈t):c.toNat < 128:=by
 unfold Ysa at h;rw[List.all_eq_true]at h;simpa using h c hc
theorem qMb{r:Int}(h:128<=r):∃m x,1<=m/\m<=3/\(w6a r).length=m+1/\(w6a r)[m]? =some x/\128<=x.toNat:=by
 unfold w6a;simp only[Utf8.encode];have hc:128<=(if Utf8.valid r=true then r.toNat else Utf8.runeError):=by
  split
  .omega
  decide
 generalize (if Utf8.valid r=true then r.toNat else Utf8.runeError)=c at hc;have hb:∀n:Nat,128<=(UInt8.ofNat (128+n % 64)).toNat:=by
  intro n;rw[UInt8.toNat_ofNat'];have:(128+n % 64) % 2 ^ 8=128+n % 64:=Nat.mod_eq_of_lt (by omega);rw[this];omega
 rw[if_neg (by omega)];split
 .exact ⟨1,_,by omega,by omega,rfl,rfl,hb c⟩
 split
 .exact ⟨2,_,by omega,by omega,rfl,rfl,hb c⟩
 exact ⟨3,_,by omega,by omega,rfl,rfl,hb c⟩
theorem WVa{t:Str}(h:∀c∈t,c.toNat < 128){x:UInt8}(hx:128<=x.toNat):Lib.indexByte t x= -1:=by
 have hc:=Lib.contains_iff_indexByte t x;have hn:t.contains x=false:=by
  rw[Bool.eq_false_iff];intro hm;have:=h x (by simpa using hm);omega
 rw[hn]at hc;have hge:=Lib.indexByte_ge t x;have:=of_decide_eq_false hc.symm;omega
theorem Wma(t:Str)(c:UInt8)(hc:c.toNat < 128):kra t (c.toNat:Int)=some (Lib.indexByte t c):=by
 unfold kra;have h1:decide ((0:Int)<=(c.toNat:Int))=true:=by simp
 have h2:decide ((c.toNat:Int) < 128)=true:=by simp;omega
 rw[h1,h2];simp only[cond_true,Option.bind_some,toU8_nat];rfl
theorem WWa(t:Str)(r:Int)(hr:128<=r)(ht:∀c∈t,c.toNat < 128)(hl:t.length<=4294967281):kra t r=some (-1):=by
 unfold kra;have h1:decide ((0:Int)<=r)=true:=by simp;omega
 have h2:decide (r < 128)=false:=by simp;omega
 rw[h1,h2];simp only[cond_true,cond_false,Option.bind_some];cases hq:r==65533 with
 | true=>
  simp only[cond_true];obtain ⟨o,ho,rfl⟩:=Jha (body:=qza t) (fun i=>i<=t.length) (fun i=>t.length - i) (fun _ o=>o=.inl ()) (fun i hi=>by
   unfold qza;by_cases hlt:i < t.length
   .right;have hg:t[i]? =some t[i]:=List.getElem?_eq_getElem hlt;have hc:=ht t[i] (List.getElem_mem hlt);obtain ⟨e1,e2⟩:=Yya hg hc;rw[e1,e2,decide_eq_true hlt];have hne:((t[i].toNat:Int)==65533)=false:=by rw[beq_eq_false_iff_ne];omega
    rw[hne];exact ⟨i+1,rfl,by omega,by omega,fun _ h=>h⟩
   left;rw[decide_eq_false hlt];exact ⟨.inl (),rfl,rfl⟩) 0 (Nat.zero_le _)
  rw[ho];rfl
 | false=>
  simp only[cond_false];have hv:∃b,kAa r=some b:=by
   unfold kAa;cases decide (0<=r) <;> cases decide (r < 55296) <;> cases decide (57343 < r) <;> cases decide (r<=1114111) <;> exact ⟨_,rfl⟩
  obtain ⟨b,hb⟩:=hv;rw[hb];simp only[Option.bind_some];cases b with
  | false=>rfl
  | true=>
   simp only[Bool.not_true,cond_false];obtain ⟨m,x,hm1,hm3,hlen,hx,hx128⟩:=qMb hr;have hst:w64 (((w6a r).length:Int) - 1)=(m:Int):=by rw[hlen,qGa (by omega) (by omega)];omega
   rw[hst];have hbody:∃o,qBa t r (m:Int)=some (.out o)/\(o=.inl ()∨o=.inr (-1)):=by
    unfold qBa;by_cases hlt:m < t.length
    .have hd:decide ((m:Int) < (t.length:Int))=true:=by simp;omega
     have hc:=ht t[m] (List.getElem_mem hlt);rw[hd,hst,Yua hlt,zqa hx];have hne:((t[m].toNat:Int) !=(x.toNat:Int))=true:=by simp;omega
     simp only[cond_true,Option.bind_some,hne];rw[show (m:Int)+1=((m+1:Nat):Int) by omega,Jga _ (by omega),Vma (by omega)];simp only[Option.bind_some];have hib:z5a (t.drop (m+1)) x=some (-1):=by
      show some (Lib.indexByte (t.drop (m+1)) x)=_;rw[WVa (fun c hc=>ht c (List.mem_of_mem_drop hc)) hx128]
     rw[hib];exact ⟨.inr (-1),rfl,.inr rfl⟩
    have hd:decide ((m:Int) < (t.length:Int))=false:=by simp;omega
    rw[hd];exact ⟨.inl (),rfl,.inl rfl⟩
   obtain ⟨o,ho,ho2⟩:=hbody;rw[zEa ho];rcases ho2 with rfl | rfl <;> rfl
theorem zdb(s t:Str)(h8:s.length<=8)(h2:2<=t.length)(hl:t.length < 4294967281)(ht:Ysa t=true):vGa s t=some (Lib.indexAny s t):=by
 have htc:∀c∈t,c.toNat < 128:=fun c hc=>Yza ht hc
 unfold vGa;have e1:(t==([]:Str))=false:=by rw[beq_eq_false_iff_ne];rintro rfl;simp at h2
 have e2:((t.length:Int)==1)=false:=by rw[beq_eq_false_iff_ne];omega
 have e3:zVa (s.length:Int)=some false:=by unfold zVa;simp;omega
 rw[e1,e2,e3];simp only[cond_false,Option.bind_some];obtain ⟨o,ho,ho2⟩:=Jha (body:=qCa s t) (fun i=>Lib.NoAny s t i) (fun i=>s.length - i) (fun _ o=>Sum.elim (fun _=>some (-1)) (fun b=>some b) o=some (Lib.indexAny s t)) (fun i hi=>by
  unfold qCa;by_cases hlt:i < s.length
  .have hg:s[i]? =some s[i]:=List.getElem?_eq_getElem hlt;rw[decide_eq_true hlt];simp only[cond_true];by_cases hc:s[i].toNat < 128
   .obtain ⟨q1,q2⟩:=Yya hg hc;rw[q1,q2,Wma t _ hc];simp only[Option.bind_some];have hcon:=Lib.contains_iff_indexByte t s[i];rw[<-hcon];cases hin:t.contains s[i] with
    | true=>
     left;exact ⟨.inr (i:Int),rfl,by rw[Lib.indexAny_hit hi hg hin];rfl⟩
    | false=>
     right;exact ⟨i+1,rfl,hi.succ hg hin,by omega,fun _ h=>h⟩
   have hc:128<=s[i].toNat:=by omega
   obtain ⟨q1,q2,q3⟩:=v7b hg hc;rw[WWa t _ q1 htc (by omega)];right;refine ⟨i+jFa s i,rfl,fun j b hj hb=>?_,by omega,fun _ h=>h⟩;by_cases hji:j < i
   .exact hi j b hji hb
   have:=v8b hg hc (by omega) hj hb;rw[Bool.eq_false_iff];intro hm;have:=htc b (by simpa using hm);omega
  left;rw[decide_eq_false hlt];refine ⟨.inl (),rfl,?_⟩;have hn:Lib.NoAny s t s.length:=fun j b hj hb=>hi j b (by omega) hb
  rw[Lib.indexAny_none hn];rfl) 0 (Lib.NoAny.zero s t)
 rw[ho];exact ho2
theorem zeb(t:Str):∀s:Str,decide (0<=Lib.indexAny s t)=s.any fun c=>t.contains c:=by
 intro s;induction s with
 | nil=>rfl
 | cons c s ih=>
  have hge:=Lib.indexAny_ge t s;rw[List.any_cons,<-ih,Lib.indexAny];cases t.contains c with
  | true=>simp
  | false=>
   simp only[Bool.false_eq_true,if_false,Bool.false_or];by_cases h:Lib.indexAny s t= -1
   .simp[h]
   have:(Lib.indexAny s t== -1)=false:=by simpa using h
   rw[this];simp only[Bool.false_eq_true,if_false];rw[Bool.eq_iff_iff];simp;omega
theorem Zta(s t:Str)(hs:s.length<=1048576)(h2:2<=t.length)(hl:t.length<=1048576)(ht:Ysa t=true):kma s t=some (s.any fun c=>t.contains c):=by
 unfold kma k5a;rw[if_pos ⟨by omega,by omega,h2,ht⟩];simp only[Option.bind_some,zeb]
def ywa(c:UInt8):Bool:=c==32 || c==9
theorem YAa(c:UInt8):wAa c=some (ywa c):=by
 unfold wAa ywa;rw[jfa c 32 (by decide),jfa c 9 (by decide)];cases c==32 <;> rfl
theorem KDa(c:UInt8):vra c=some (ywa c):=by
 unfold vra ywa;rw[jfa c 32 (by decide),jfa c 9 (by decide)];cases c==32 <;> rfl
def fnC(c:UInt8):Bool:=decide (33<=c) && decide (c<=126) && c !=58
def fnP(s:Str):Bool:=s !=([]:Str) && decide (s.length<=60) && s.all fnC
theorem dec60(s:Str):decide ((s.length:Int)<=60)=decide (s.length<=60):=by generalize s.length=n;rw[Bool.eq_iff_iff];simp;omega
theorem zfb(s:Str)(hs:s.length<=1048576):ZJa s=some (fnP s):=by
 have hloop:iter (yba s) 0=some ((zZa (fun _ c=>if !fnC c then some () else none) 0 s).elim (.inl ()) .inr):=by
  refine zNa s _ (Sum.inl ()) Sum.inr ?_ ?_
  .unfold yba;rw[zAa];rfl
  intro i c hc;have hi:=zBa hc;unfold yba;rw[zPa hc,zqa hc];simp only[cond_true,Option.bind_some,Wha c 58 (by decide),Zla 33 c (by decide),Zma 126 c (by decide),sc i (by omega)];unfold fnC;cases decide ((33:UInt8)<=c) <;> cases decide (c<=126) <;> cases c !=58 <;> rfl
 unfold ZJa fnP;rw[hloop];simp only[Option.bind_some,KCa,j9a,Jma,dec60];cases s !=([]:Str) <;> cases decide (s.length<=60) <;> cases s.all fnC <;> rfl
def endC(c:UInt8):Bool:=c==13 || c==10 || c==0
theorem zgb(s:Str)(hs:s.length<=1048576):ZKa s=some (s.any endC):=by
 unfold ZKa;rw[Zta s _ hs (by decide) (by decide) (by decide)];simp only[Option.bind_some,Option.some.injEq]
 congr 1
 funext c;rw[Bool.eq_iff_iff];simp[endC,or_assoc]
def v9b(s:Str):Bool:=match s.head?,s.getLast? with | some a,some b=>ywa a || ywa b | _,_=>false
def valP(s:Str):Bool:= !(s.any endC) && !(v9b s)
theorem kXb(s:Str)(h:s≠ [])(hs:s.length<=1048576):∃a b,idx s 0=some a/\idx s (w64 ((s.length:Int) - 1))=some b/\s.head? =some a/\s.getLast? =some b:=by
 have hpos:=List.length_pos_iff.2 h;obtain ⟨a,r,rfl⟩:=List.exists_cons_of_ne_nil h;have e:w64 (((a::r).length:Int) - 1)=((r.length:Nat):Int):=by
  have hl:(a::r).length=r.length+1:=rfl;rw[qGa (by omega) (by omega)];omega
 refine ⟨a,(a::r).getLast h,rfl,?_,rfl,List.getLast?_eq_some_getLast h⟩;rw[e,Wia,List.getLast_eq_getElem h,List.getElem?_eq_getElem (by simp)]
 congr 2
theorem Jpa(s:Str)(hs:s.length<=1048576):jKa s=some (valP s):=by
 unfold jKa valP;rw[zgb s hs];simp only[Option.bind_some];by_cases hn:s=[]
 .subst hn;rfl
 obtain ⟨a,b,h1,h2,h3,h4⟩:=kXb s hn hs;have e:(s==([]:Str))=false:=by simpa using hn
 unfold v9b;rw[h1,h2,h3,h4,e];simp only[Option.bind_some,KDa,cond_false];cases s.any endC <;> cases ywa a <;> cases ywa b <;> rfl
def br(t:Str)(f i:Nat):Bool:=decide (1<=i) && decide (f<=i) && (match t[i]?,t[i - 1]? with | some a,some b=>ywa a && !ywa b | _,_=>false)
def Q6a(t:Str)(f:Nat):Nat->Nat
 | 0=>0
 | i+1=>if br t f (i+1) then i+1 else Q6a t f i
def Jqa(t:Str)(f:Nat):Nat->Nat->Nat
 | 0,_=>0
 | n+1,i=>if br t f i then i else Jqa t f n (i+1)
def cutP(t:Str)(f:Nat):Nat:=if Q6a t f 78=0 then Jqa t f (t.length - 79) 79 else Q6a t f 78
def kib(t:Str)(f c:Nat):Prop:=(c=0/\∀j,br t f j=false)∨(br t f c=true/\((c<=78/\∀j,c < j->j<=78->br t f j=false)∨(78 < c/\∀j,j < c->br t f j=false)))
theorem wab(t:Str)(f:Nat):br t f 0=false:=rfl
theorem kjb{t:Str}{f i:Nat}(h:br t f i=true):i < t.length/\1<=i/\f<=i:=by
 unfold br at h;simp only[Bool.and_eq_true,decide_eq_true_eq]at h;obtain ⟨⟨h1,h2⟩,h3⟩:=h;refine ⟨?_,h1,h2⟩;cases hi:t[i]? with
 | none=>rw[hi]at h3;simp at h3
 | some a=>exact zBa hi
theorem zhb{t:Str}{f c d:Nat}(h:kib t f c)(k:kib t f d):c=d:=by
 rcases h with ⟨rfl,h⟩ | ⟨hc,h⟩ <;> rcases k with ⟨rfl,k⟩ | ⟨hd,k⟩
 .rfl
 .rw[h]at hd;cases hd
 .rw[k]at hc;cases hc
 rcases Nat.lt_trichotomy c d with hlt | heq | hgt
 .exfalso;rcases h with ⟨h1,h2⟩ | ⟨h1,h2⟩ <;> rcases k with ⟨k1,k2⟩ | ⟨k1,k2⟩
  .rw[h2 d hlt k1]at hd;cases hd
  .rw[k2 c hlt]at hc;cases hc
  .omega
  rw[k2 c hlt]at hc;cases hc
 .exact heq
 exfalso;rcases h with ⟨h1,h2⟩ | ⟨h1,h2⟩ <;> rcases k with ⟨k1,k2⟩ | ⟨k1,k2⟩
 .rw[k2 c hgt h1]at hc;cases hc
 .omega
 .rw[h2 d hgt]at hd;cases hd
 rw[h2 d hgt]at hd;cases hd
theorem qNb(t:Str)(f:Nat):∀n,(Q6a t f n=0/\∀j,j<=n->br t f j=false)∨(br t f (Q6a t f n)=true/\Q6a t f n<=n/\∀j,Q6a t f n < j->j<=n->br t f j=false):=by
 intro n;induction n with
 | zero=>left;exact ⟨rfl,fun j hj=>by
  obtain rfl:j=0:=by omega
  exact wab t f⟩
 | succ n ih=>
  unfold Q6a;by_cases h:br t f (n+1)=true
  .rw[if_pos h];right;exact ⟨h,Nat.le_refl _,fun j h1 h2=>by omega⟩
  rw[if_neg h];rcases ih with ⟨h1,h2⟩ | ⟨h1,h2,h3⟩
  .left;refine ⟨h1,fun j hj=>?_⟩;by_cases e:j=n+1
   .subst e;simpa using h
   exact h2 j (by omega)
  right;refine ⟨h1,by omega,fun j hj hjn=>?_⟩;by_cases e:j=n+1
  .subst e;simpa using h
  exact h3 j hj (by omega)
theorem qOb(t:Str)(f:Nat):∀n i,(Jqa t f n i=0/\∀j,i<=j->j < i+n->br t f j=false)∨(br t f (Jqa t f n i)=true/\i<=Jqa t f n i/\∀j,i<=j->j < Jqa t f n i->br t f j=false):=by
 intro n;induction n with
 | zero=>intro i;left;exact ⟨rfl,fun j h1 h2=>by omega⟩
 | succ n ih=>
  intro i;unfold Jqa;by_cases h:br t f i=true
  .rw[if_pos h];right;exact ⟨h,Nat.le_refl _,fun j h1 h2=>by omega⟩
  rw[if_neg h];have hb:br t f i=false:=by simpa using h
  rcases ih (i+1) with ⟨h1,h2⟩ | ⟨h1,h2,h3⟩
  .left;refine ⟨h1,fun j hj hjn=>?_⟩;by_cases e:j=i
   .subst e;exact hb
   exact h2 j (by omega) (by omega)
  right;refine ⟨h1,by omega,fun j hj hjn=>?_⟩;by_cases e:j=i
  .subst e;exact hb
  exact h3 j (by omega) hjn
theorem wbb(t:Str)(f:Nat):kib t f (cutP t f):=by
 unfold cutP;rcases qNb t f 78 with ⟨h1,h2⟩ | ⟨h1,h2,h3⟩
 .rw[if_pos h1];rcases qOb t f (t.length - 79) 79 with ⟨k1,k2⟩ | ⟨k1,k2,k3⟩
  .left;refine ⟨k1,fun j=>?_⟩;by_cases hj:j<=78
   .exact h2 j hj
   cases hb:br t f j with
   | false=>rfl
   | true=>have:=(kjb hb).1;rw[k2 j (by omega) (by omega)]at hb;cases hb
  right;refine ⟨k1,.inr ⟨by omega,fun j hj=>?_⟩⟩;by_cases hj2:j<=78
  .exact h2 j hj2
  exact k3 j (by omega) hj
 have hne:Q6a t f 78≠0:=by intro h;rw[h,wab]at h1;cases h1
 rw[if_neg hne];exact .inr ⟨h1,.inl ⟨h2,h3⟩⟩
theorem Kja{t:Str}{f:Nat}(h:cutP t f≠0):1<=cutP t f/\cutP t f < t.length:=by
 rcases wbb t f with ⟨h1,_⟩ | ⟨h1,_⟩
 .exact absurd h1 h
 exact ⟨(kjb h1).2.1,(kjb h1).1⟩
theorem br_at{t:Str}{f i:Nat}(h1:1<=i)(hi:i < t.length):br t f i=(decide (f<=i) && (ywa t[i] && !ywa (t[i - 1]'(by omega)))):=by
 unfold br;rw[List.getElem?_eq_getElem hi,List.getElem?_eq_getElem (show i - 1 < t.length by omega)];simp[h1]
def PInv(t:Str)(f b i:Nat):Prop:=f<=i/\1<=i/\((b=0/\∀j,j < i->br t f j=false)∨(br t f b=true/\b < i/\((b<=78/\∀j,b < j->j < i->br t f j=false)∨(78 < b/\∀j,j < b->br t f j=false))))
theorem PInv.done{t:Str}{f b i:Nat}(h:PInv t f b i)(hi:0 < b/\78 < i∨t.length<=i):kib t f b:=by
 obtain ⟨hf,h1,h2⟩:=h;rcases h2 with ⟨rfl,h3⟩ | ⟨h3,h4,h5⟩
 .left;refine ⟨rfl,fun j=>?_⟩;cases hb:br t f j with
  | false=>rfl
  | true=>
   have:=(kjb hb).1;rw[h3 j (by omega)]at hb;cases hb
 right;refine ⟨h3,?_⟩;rcases h5 with ⟨h6,h7⟩ | h6
 .left;refine ⟨h6,fun j hj hj2=>?_⟩;cases hb:br t f j with
  | false=>rfl
  | true=>
   have:=(kjb hb).1;rw[h7 j hj (by omega)]at hb;cases hb
 exact .inr h6
theorem Jra(t:Str)(f:Nat)(ht:t.length<=4194304)(hf:f<=4194304):jLa t (f:Int)=some ((cutP t (max f 1):Nat):Int):=by
 unfold jLa;have hstart:max (f:Int) 1=((max f 1:Nat):Int):=by omega
 rw[hstart];obtain ⟨r,h1,b,rfl,h2⟩:=Jha (body:=yBa t) (fun s=>∃b i:Nat,s=((b:Int),(i:Int))/\PInv t (max f 1) b i/\i<=4194305) (fun s=>(4194306 - s.2).toNat) (fun _ r=>∃c:Nat,r=(c:Int)/\kib t (max f 1) c) (by
  rintro _ ⟨b,i,rfl,hI,hil⟩;have hi1:=hI.2.1;unfold yBa;dsimp only;by_cases hlt:i < t.length
  .have hd:decide ((i:Int) < (t.length:Int))=true:=by simp;omega
   have hpre:w64 ((i:Int) - 1)=((i - 1:Nat):Int):=by rw[qGa (by omega) (by omega)];omega
   rw[hd,Yua hlt,hpre,Yua (show i - 1 < t.length by omega)];have hb:=br_at (f:=max f 1) hi1 hlt;have hfi:decide (max f 1<=i)=true:=by simp only[decide_eq_true_eq];exact hI.1
   rw[hfi,Bool.true_and]at hb;simp only[cond_true,Option.bind_some,KDa];have next:∀b' :Nat,PInv t (max f 1) b' (i+1)->qYa ((b:Int),(i:Int)) (b' :Int)=some (.cont ((b' :Int),((i+1:Nat):Int))):=by
    intro b' _;unfold qYa;dsimp only;rw[sc i (by omega)]
   have hno:br t (max f 1) i=false->PInv t (max f 1) b (i+1):=by
    intro hnb;refine ⟨by have:=hI.1;omega,by omega,?_⟩;rcases hI.2.2 with ⟨q1,q2⟩ | ⟨q1,q2,q3⟩
    .left;refine ⟨q1,fun j hj=>?_⟩;by_cases e:j=i
     .subst e;exact hnb
     exact q2 j (by omega)
    right;refine ⟨q1,by omega,?_⟩;rcases q3 with ⟨q4,q5⟩ | q4
    .left;refine ⟨q4,fun j hj hj2=>?_⟩;by_cases e:j=i
     .subst e;exact hnb
     exact q5 j hj (by omega)
    exact .inr q4
   have goNo:br t (max f 1) i=false->(∃s',qYa ((b:Int),(i:Int)) (b:Int)=some (.cont s')/\(∃b i:Nat,s' =((b:Int),(i:Int))/\PInv t (max f 1) b i/\i<=4194305)/\(4194306 - s'.2).toNat < (4194306 - ((i:Int))).toNat/\∀r:Int,(∃c:Nat,r=(c:Int)/\kib t (max f 1) c)->∃c:Nat,r=(c:Int)/\kib t (max f 1) c):=by
    intro hnb;exact ⟨_,next b (hno hnb),⟨b,i+1,rfl,hno hnb,by omega⟩,by dsimp only;omega,fun _ h=>h⟩
   cases ha:ywa t[i] with
   | false=>
    rw[ha]at hb;simp only[Bool.not_false,cond_true,Option.bind_some];exact .inr (goNo hb)
   | true=>
    rw[ha]at hb;simp only[Bool.not_true,cond_false,Option.bind_some];cases hp:ywa t[i - 1] with
    | true=>
     rw[hp]at hb;simp only[cond_true];exact .inr (goNo hb)
    | false=>
     rw[hp]at hb;have hb:br t (max f 1) i=true:=hb;simp only[cond_false];by_cases hb0:0 < b/\78 < i
     .left;have e1:decide ((0:Int) < (b:Int))=true:=by simp;omega
      have e2:decide ((78:Int) < (i:Int))=true:=by simp;omega
      rw[e1,e2];exact ⟨(b:Int),rfl,b,rfl,hI.done (.inl hb0)⟩
     right;have e:(bif decide ((0:Int) < (b:Int)) then some (decide ((78:Int) < (i:Int))) else some false)=some false:=by
      by_cases h0:0 < b
      .have e1:decide ((0:Int) < (b:Int))=true:=by simp;omega
       have e2:decide ((78:Int) < (i:Int))=false:=by simp;omega
       rw[e1,e2];rfl
      have e1:decide ((0:Int) < (b:Int))=false:=by simp;omega
      rw[e1];rfl
     rw[e];simp only[Option.bind_some,cond_false];have hnew:PInv t (max f 1) i (i+1):=by
      refine ⟨by have:=hI.1;omega,by omega,.inr ⟨hb,by omega,?_⟩⟩;by_cases h78:i<=78
      .exact .inl ⟨h78,fun j h1 h2=>by omega⟩
      right;refine ⟨by omega,?_⟩;rcases hI.2.2 with ⟨q1,q2⟩ | ⟨q1,q2,q3⟩
      .exact q2
      exfalso;have:=(kjb q1).2.1;omega
     exact ⟨_,next i hnew,⟨i,i+1,rfl,hnew,by omega⟩,by dsimp only;omega,fun _ h=>h⟩
  left;have hd:decide ((i:Int) < (t.length:Int))=false:=by simp;omega
  rw[hd];exact ⟨(b:Int),rfl,b,rfl,hI.done (.inr (by omega))⟩) ((0:Int),((max f 1:Nat):Int)) ⟨0,max f 1,rfl,⟨Nat.le_refl _,by omega,.inl ⟨rfl,fun j hj=>by
  cases hb:br t (max f 1) j with
  | false=>rfl
  | true=>have:=(kjb hb).2.2;omega⟩⟩,by omega⟩
 rw[h1];simp only[Option.bind_some];rw[zhb h2 (wbb t (max f 1))]
theorem R_cut_eq(t:Str)(f:Nat)(out:List Str)(ht:t.length<=4194304)(h78:78 < t.length)(hf:f<=4194304)(h1f:1<=f):((iter (kJa (t,(f:Int),out)) (0,78)).bind fun b10=>iter (kva (t,(f:Int),out)) (b10,79))=some ((cutP t f:Nat):Int):=by
 have test:∀i:Nat,1<=i->i < t.length->((bif decide ((f:Int)<=(i:Int)) then (idx t (i:Int)).bind fun v18=>(wAa v18).bind fun v20=>(bif v20 then (idx t ((w64 ((i:Int) - 1)))).bind fun v23=>(wAa v23).bind fun v25=>some ((!v25)) else some false) else some false):Option Bool)=some (br t f i):=by
  intro i h1 h2;have hpre:w64 ((i:Int) - 1)=((i - 1:Nat):Int):=by rw[qGa (by omega) (by omega)];omega
  rw[br_at h1 h2,Yua h2,hpre,Yua (show i - 1 < t.length by omega)];have e:decide ((f:Int)<=(i:Int))=decide (f<=i):=by rw[Bool.eq_iff_iff];simp
  rw[e];simp only[Option.bind_some,YAa];cases decide (f<=i) <;> cases ywa t[i] <;> rfl
 have hdn:∀i:Nat,i<=78->iter (kJa (t,(f:Int),out)) (0,(i:Int))=some ((Q6a t f i:Nat):Int):=by
  intro i;induction i with
  | zero=>intro _;exact zEa (by unfold kJa;rfl)
  | succ i ih=>
   intro hi;have hb:kJa (t,(f:Int),out) (0,((i+1:Nat):Int))=some (.cont ((bif br t f (i+1) then ((i+1:Nat):Int) else 0),(i:Int))):=by
    unfold kJa;dsimp only;have e1:decide ((0:Int) < ((i+1:Nat):Int))=true:=by rw[decide_eq_true_eq];omega
    have e2:w64 (((i+1:Nat):Int) - 1)=(i:Int):=by rw[qGa (by omega) (by omega)];omega
    rw[test (i+1) (by omega) (by omega),e1,e2];simp only[beq_self_eq_true,cond_true,Option.bind_some];cases br t f (i+1) <;> rfl
   rw[zSa hb];unfold Q6a;cases hq:br t f (i+1) with
   | false=>simpa using ih (by omega)
   | true=>
    simp only[cond_true,if_true];refine zEa ?_;unfold kJa;dsimp only;have e3:((((i+1:Nat):Int))==0)=false:=by rw[beq_eq_false_iff_ne];omega
    rw[e3];cases decide ((0:Int) < (i:Int)) <;> rfl
 have h1:=hdn 78 (by omega);have e78:((78:Nat):Int)=78:=rfl;rw[e78]at h1;rw[h1];simp only[Option.bind_some];have hout:∀(c i:Nat),c≠0->iter (kva (t,(f:Int),out)) ((c:Int),(i:Int))=some ((c:Nat):Int):=by
  intro c i hc;refine zEa ?_;unfold kva;dsimp only;have e3:((c:Int)==0)=false:=by rw[beq_eq_false_iff_ne];omega
  rw[e3];cases decide ((i:Int) < (t.length:Int)) <;> rfl
 have hup:∀n i:Nat,i+n=t.length->1<=i->iter (kva (t,(f:Int),out)) (0,(i:Int))=some ((Jqa t f n i:Nat):Int):=by
  intro n;induction n with
  | zero=>
   intro i hi _;refine zEa ?_;unfold kva;dsimp only;have:decide ((i:Int) < (t.length:Int))=false:=by rw[decide_eq_false_iff_not];omega
   rw[this];rfl
  | succ n ih=>
   intro i hi h1i;have hb:kva (t,(f:Int),out) (0,(i:Int))=some (.cont ((bif br t f i then (i:Int) else 0),((i+1:Nat):Int))):=by
    unfold kva;dsimp only;have e1:decide ((i:Int) < (t.length:Int))=true:=by simp;omega
    rw[test i h1i (by omega),e1,sc i (by omega)];simp only[beq_self_eq_true,cond_true,Option.bind_some];cases br t f i <;> rfl
   rw[zSa hb];unfold Jqa;cases hq:br t f i with
   | false=>simpa using ih (i+1) (by omega) (by omega)
   | true=>
    simp only[cond_true,if_true];exact hout i (i+1) (by omega)
 unfold cutP;have e79:((79:Nat):Int)=79:=rfl;by_cases h0:Q6a t f 78=0
 .rw[if_pos h0,h0];have:=hup (t.length - 79) 79 (by omega) (by omega);rw[e79]at this;exact this
 rw[if_neg h0];have:=hout (Q6a t f 78) 79 h0;rw[e79]at this;exact this
def Qxa:Nat->Str->Nat->List Str
 | 0,t,_=>[t]
 | n+1,t,f=>if 78 < t.length then (if cutP t f=0 then [t] else t.take (cutP t f)::Qxa n (t.drop (cutP t f)) 1) else [t]
theorem Jsa:∀(n m:Nat) (t:Str) (f:Nat),t.length<=n->t.length<=m->Qxa n t f=Qxa m t f:=by
 intro n;induction n with
 | zero=>
  intro m t f h1 h2;cases m with
  | zero=>rfl
  | succ m=>unfold Qxa;rw[if_neg (by omega)]
 | succ n ih=>
  intro m t f h1 h2;cases m with
  | zero=>unfold Qxa;rw[if_neg (by omega)]
  | succ m=>
   unfold Qxa;split
   .split
    .rfl
    rename_i hc;have:=Kja hc;rw[ih m _ 1 (by simp;omega) (by simp;omega)]
   rfl
def y9a(t:Str)(f:Nat):List Str:=Qxa t.length t f
theorem Vna{t:Str}{f:Nat}(h:78 < t.length)(hc:cutP t f≠0):y9a t f=t.take (cutP t f)::y9a (t.drop (cutP t f)) 1:=by
 unfold y9a;obtain ⟨n,hn⟩:∃n,t.length=n+1:=⟨t.length - 1,by omega⟩;have hp:=Kja hc;rw[hn,Qxa,if_pos h,if_neg hc];rw[Jsa n (t.drop (cutP t f)).length _ 1 (by simp;omega) (Nat.le_refl _)]
theorem wWa{t:Str}{f:Nat}(h:¬78 < t.length∨cutP t f=0):y9a t f=[t]:=by
 unfold y9a;cases hn:t.length with
 | zero=>rfl
 | succ n=>
  rw[Qxa];rcases h with h | h
  .rw[if_neg h]
  split
  .rfl
  rfl
theorem Voa:∀(n:Nat) (t:Str) (f:Nat),t.length<=n->(y9a t f).flatten=t/\(y9a t f).length<=t.length+1:=by
 intro n;induction n with
 | zero=>intro t f h;rw[wWa (.inl (by omega))];simp
 | succ n ih=>
  intro t f h;by_cases h78:78 < t.length
  .by_cases hc:cutP t f=0
   .rw[wWa (.inr hc)];simp
   have hp:=Kja hc;rw[Vna h78 hc];obtain ⟨h1,h2⟩:=ih (t.drop (cutP t f)) 1 (by simp;omega);rw[List.flatten_cons,h1];refine ⟨by simp,?_⟩;simp only[List.length_cons,List.length_drop]at h2 ⊢;omega
  rw[wWa (.inl h78)];simp
theorem YBa{body:Str × Int × List Str->Option (Step (Str × Int × List Str) (Str × List Str))}(enc:Nat->Int)(g:Nat)
 (h:∀(t:Str) (f:Nat) (out:List Str),t.length<=4194304->out.length<=4194305->f<=4194304->body (t,enc f,out)=some (if 78 < t.length then (if cutP t (max f 1)=0 then .out (t,out) else .cont (t.drop (cutP t (max f 1)),enc g,out++ [t.take (cutP t (max f 1))])) else .out (t,out))) (h0:max g 1=1):
 ∀(n:Nat) (t:Str) (f:Nat) (out:List Str),t.length<=n->t.length<=4194304->out.length+t.length<=4194305->f<=4194304->∃last init,iter body (t,enc f,out)=some (last,init)/\init++ [last]=out++y9a t (max f 1):=by
 intro n;induction n with
 | zero=>
  intro t f out h1 h2 h3 h4;have hb:=h t f out h2 (by omega) h4;rw[if_neg (by omega)]at hb;exact ⟨t,out,zEa hb,by rw[wWa (.inl (by omega))]⟩
 | succ n ih=>
  intro t f out h1 h2 h3 h4;have hb:=h t f out h2 (by omega) h4;by_cases h78:78 < t.length
  .rw[if_pos h78]at hb;by_cases hc:cutP t (max f 1)=0
   .rw[if_pos hc]at hb;exact ⟨t,out,zEa hb,by rw[wWa (.inr hc)]⟩
   rw[if_neg hc]at hb;have hp:=Kja hc;obtain ⟨last,init,q1,q2⟩:=ih (t.drop (cutP t (max f 1))) g (out++ [t.take (cutP t (max f 1))]) (by simp;omega) (by simp;omega) (by simp;omega) (by omega);refine ⟨last,init,(zSa hb).trans q1,?_⟩;rw[q2,h0,Vna h78 hc];simp
  rw[if_neg h78]at hb;exact ⟨t,out,zEa hb,by rw[wWa (.inl h78)]⟩
def txt(n v:Str):Str:=n++ [58,32]++v
def flP(n v:Str):List Str:=y9a (txt n v) (n.length+2)
theorem wcb(t:Str)(f:Nat)(ht:t.length<=4194304)(hf:f<=4194304):∃last init,iter yca (t,(f:Int),([]:List Str))=some (last,init)/\init++ [last]=y9a t (max f 1):=by
 have:=YBa (body:=yca) (fun n=>(n:Int)) 0 (fun t f out h1 h2 h3=>by
  unfold yca;dsimp only;by_cases h78:78 < t.length
  .have hd:decide ((78:Int) < (t.length:Int))=true:=by rw[decide_eq_true_eq];omega
   rw[hd,if_pos h78,Jra t f h1 h3];simp only[cond_true,Option.bind_some];by_cases hc:cutP t (max f 1)=0
   .rw[if_pos hc,hc];rfl
   have hp:=Kja hc;have e:(((cutP t (max f 1):Nat):Int)==0)=false:=by rw[beq_eq_false_iff_ne];omega
   rw[if_neg hc,e,Wja (by omega),Vma (by omega)];simp only[cond_false,Option.bind_some];rw[vka (by simp;omega)];rfl
  have hd:decide ((78:Int) < (t.length:Int))=false:=by rw[decide_eq_false_iff_not];omega
  rw[hd,if_neg h78];rfl) (by decide) t.length t f [] (Nat.le_refl _) ht (by simp;omega) hf
 simpa using this
theorem ref_loop(t:Str)(f:Nat)(ht:t.length<=4194304)(hf:f<=4194304)(h1f:1<=f):∃last init,iter vta (t,(f:Int),([]:List Str))=some (last,init)/\init++ [last]=y9a t f:=by
 have:=YBa (body:=vta) (fun n=>((max n 1:Nat):Int)) 1 (fun t f out h1 h2 h3=>by
  unfold vta;dsimp only;by_cases h78:78 < t.length
  .have hd:decide ((78:Int) < (t.length:Int))=true:=by rw[decide_eq_true_eq];omega
   have hc0:=R_cut_eq t (max f 1) out h1 h78 (by omega) (by omega);obtain ⟨b10,hb10,hc1⟩:=Option.bind_eq_some_iff.1 hc0;rw[hd,if_pos h78,hb10];simp only[cond_true,Option.bind_some];rw[hc1];simp only[Option.bind_some];by_cases hc:cutP t (max f 1)=0
   .rw[if_pos hc,hc];rfl
   have hp:=Kja hc;have e:(((cutP t (max f 1):Nat):Int)==0)=false:=by rw[beq_eq_false_iff_ne];omega
   rw[if_neg hc,e,Wja (by omega),Vma (by omega)];simp only[cond_false,Option.bind_some];rw[vka (by simp;omega)];rfl
  have hd:decide ((78:Int) < (t.length:Int))=false:=by rw[decide_eq_false_iff_not];omega
  rw[hd,if_neg h78];rfl) (by decide) t.length t f [] (Nat.le_refl _) ht (by simp;omega) hf
 have e:max f 1=f:=by omega
 rw[e]at this;simpa using this
theorem wdb(n v:Str)(hn:n.length<=1048576)(hv:v.length<=1048576):cat n [58,32]=some (n++ [58,32])/\cat (n++ [58,32]) v=some (txt n v)/\w64 ((n.length:Int)+2)=((n.length+2:Nat):Int):=by
 refine ⟨cat_ok (by simp;omega),cat_ok (by simp;omega),?_⟩;rw[qGa (by omega) (by omega)];omega
theorem kkb(n v:Str):(txt n v).length=n.length+2+v.length:=by unfold txt;simp;omega
theorem ZPa(n v:Str)(hn:n.length<=1048576)(hv:v.length<=1048576):wja n v=some (flP n v):=by
 obtain ⟨h1,h2,h3⟩:=wdb n v hn hv;have hl:=kkb n v;obtain ⟨last,init,q1,q2⟩:=ref_loop (txt n v) (n.length+2) (by omega) (by omega) (by omega);unfold wja flP;rw[h1];simp only[Option.bind_some];rw[h2];simp only[Option.bind_some];rw[h3,q1];simp only[Option.bind_some];have hj:=(Voa (txt n v).length (txt n v) (n.length+2) (Nat.le_refl _)).2;rw[<-q2]at hj;simp at hj;rw[vka (by simp;omega),q2];rfl
def Wna(i:Nat)(l:Str):Option Int:=if 998 < l.length then some (i:Int) else none
def klb(n v:Str):List Str × zpa:=
 if !fnP n then ([],⟨10, -1⟩) else if 4000 < v.length then ([],⟨1, -1⟩) else if !valP v then ([],⟨11, -1⟩) else match zZa Wna 0 (flP n v) with | some i=>([],⟨1,i⟩) | none=>(flP n v,⟨0,0⟩)
theorem kYb(n v:Str):(flP n v).length<=n.length+v.length+3:=by
 have:=(Voa (txt n v).length (txt n v) (n.length+2) (Nat.le_refl _)).2;have hl:=kkb n v;unfold flP;omega
theorem dec998(l:Str):decide ((998:Int) < (l.length:Int))=decide (998 < l.length):=by generalize l.length=n;rw[Bool.eq_iff_iff];simp;omega
theorem Vpa(n v:Str)(hn:n.length<=1048576)(hv:v.length<=1048576):jMa n v=some (klb n v):=by
 obtain ⟨h1,h2,h3⟩:=wdb n v hn hv;have hl:=kkb n v;obtain ⟨last,init,q1,q2⟩:=wcb (txt n v) (n.length+2) (by omega) (by omega);rw[show max (n.length+2) 1=n.length+2 by omega]at q2;unfold jMa klb;rw[zfb n hn,Jpa v hv];simp only[Option.bind_some,zWa,kwa];cases fnP n with
 | false=>rfl
 | true=>
  simp only[Bool.not_true,cond_false,Bool.false_eq_true,if_false];by_cases h4:4000 < v.length
  .have hd:decide ((4000:Int) < (v.length:Int))=true:=by rw[decide_eq_true_eq];omega
   rw[hd,if_pos h4];rfl
  have hd:decide ((4000:Int) < (v.length:Int))=false:=by rw[decide_eq_false_iff_not];omega
  rw[hd,if_neg h4];simp only[cond_false];cases valP v with
  | false=>rfl
  | true=>
   simp only[Bool.not_true,cond_false,Bool.false_eq_true,if_false];rw[h1];simp only[Option.bind_some];rw[h2];simp only[Option.bind_some];rw[h3,q1];simp only[Option.bind_some];have hj:=kYb n v;have hfl:flP n v=init++ [last]:=q2.symm;have hj2:=hj;rw[hfl]at hj2;simp at hj2;rw[vka (by simp;omega),<-hfl];simp only[Option.bind_some];rw[zNa (flP n v) (fun i l=>(Wna i l).map fun k=>(([]:List Str),(⟨1,k⟩:zpa))) (.inl ()) .inr]
   .simp only[Option.bind_some];have hm:∀(l:List Str) (i:Nat),zZa (fun i l=>(Wna i l).map fun k=>(([]:List Str),(⟨1,k⟩:zpa))) i l=(zZa Wna i l).map fun k=>(([]:List Str),(⟨1,k⟩:zpa)):=by
     intro l;induction l with
     | nil=>intro i;rfl
     | cons x l ih=>intro i;unfold zZa;rw[ih];cases Wna i x <;> rfl
    rw[hm];cases zZa Wna 0 (flP n v) <;> rfl
   .unfold joa;rw[zAa];rfl
   intro i l hli;have hi:=zBa hli;unfold joa Wna;rw[zPa hli,zqa hli];simp only[cond_true,Option.bind_some,dec998,zWa,sc i (by omega)];by_cases h9:998 < l.length
   .simp[h9]
   simp[h9]
def KUa(f:zha):Int:=(klb f.Name f.Value).2.Code
def kmb(l:List Str):Bool:=l.any fun s=>decide (998 < s.length)
theorem YCa(l:List Str):∀n,(zZa Wna n l).isSome=kmb l:=by
 induction l with
 | nil=>intro n;rfl
 | cons x l ih=>
  intro n;unfold zZa kmb Wna;by_cases h:998 < x.length
  .simp[h]
  simp only[h,if_false,List.any_cons,decide_false,Bool.false_or];exact ih (n+1)
def codeQ(n v:Str):Int:=if !fnP n then 10 else if 4000 < v.length then 1 else if !valP v then 11 else if kmb (flP n v) then 1 else 0
theorem kZb(f:zha):KUa f=codeQ f.Name f.Value:=by
 unfold KUa klb codeQ;rw[<-YCa (flP f.Name f.Value) 0];split
 .rfl
 split
 .rfl
 split
 .rfl
 cases zZa Wna 0 (flP f.Name f.Value) <;> rfl
theorem R_In_60(s:Str):R_In (s.length:Int) 1 60=some (s !=([]:Str) && decide (s.length<=60)):=by
 rw[vya];cases s with
 | nil=>rfl
 | cons c s=>
  have h:decide ((1:Int)<=((c::s).length:Int))=true:=by rw[decide_eq_true_eq];simp;omega
  rw[h,dec60];rfl
theorem elim_int(c:Int)(o:Option Unit)(f:Unit->Option Int):Sum.elim f (fun b=>some b) (o.elim (Sum.inl ()) (fun _=>Sum.inr c):Unit ⊕ Int)=bif o.isSome then some c else f ():=by cases o <;> rfl
theorem WXa(f:zha)(hn:f.Name.length<=1048576)(hv:f.Value.length<=1048576):yYa f=some (KUa f):=by
 rw[kZb];unfold yYa;have hl1:iter (vVa f) 0=some ((zZa (fun _ c=>if !fnC c then some () else none) 0 f.Name).elim (.inl ()) fun _=>.inr 10):=by
  refine zNa f.Name _ (Sum.inl ()) (fun _=>Sum.inr 10) ?_ ?_
  .unfold vVa;rw[zAa];rfl
  intro i c hc;have hi:=zBa hc;unfold vVa;rw[zPa hc,zqa hc];simp only[cond_true,Option.bind_some,vya,jfa c 58 (by decide),Zla 33 c (by decide),Zma 126 c (by decide),sc i (by omega)];unfold fnC bne;cases decide ((33:UInt8)<=c) <;> cases decide (c<=126) <;> cases c==58 <;> rfl
 have hl2:iter (vWa f) 0=some ((zZa (fun _ c=>if endC c then some () else none) 0 f.Value).elim (.inl ()) fun _=>.inr 11):=by
  refine zNa f.Value _ (Sum.inl ()) (fun _=>Sum.inr 11) ?_ ?_
  .unfold vWa;rw[zAa];rfl
  intro i c hc;have hi:=zBa hc;unfold vWa;rw[zPa hc,zqa hc];simp only[cond_true,Option.bind_some,jfa c 0 (by decide),jfa c 10 (by decide),jfa c 13 (by decide),sc i (by omega)];unfold endC;cases c==0 <;> cases c==10 <;> cases c==13 <;> rfl
 have hl3:∀l:List Str,l.length<=4194304->iter (vXa l) 0=some ((zZa (fun _ c=>if decide (998 < c.length) then some () else none) 0 l).elim (.inl ()) fun _=>.inr 1):=by
  intro l hl;refine zNa l _ (Sum.inl ()) (fun _=>Sum.inr 1) ?_ ?_
  .unfold vXa;rw[zAa];rfl
  intro i c hc;have hi:=zBa hc;unfold vXa;rw[zPa hc,zqa hc];simp only[cond_true,Option.bind_some,dec998,sc i (by omega)];cases decide (998 < c.length) <;> rfl
 have hfl:=kYb f.Name f.Value;rw[hl1];simp only[Option.bind_some,elim_int,j9a,Jma,R_In_60,hl2,ZPa _ _ hn hv,hl3 _ (show (flP f.Name f.Value).length<=4194304 by omega)];have h4:decide ((4000:Int) < (f.Value.length:Int))=decide (4000 < f.Value.length):=by generalize f.Value.length=n;rw[Bool.eq_iff_iff];simp;omega
 have he:(bif decide ((0:Int) < (f.Value.length:Int)) then (idx f.Value 0).bind fun v38=>(wAa v38).bind fun v40=>(bif v40 then some true else (idx f.Value ((w64 ((f.Value.length:Int) - 1)))).bind fun v43=>(wAa v43).bind fun v45=>some v45) else some false)=some (v9b f.Value):=by
  by_cases hn0:f.Value=[]
  .rw[hn0];rfl
  obtain ⟨a,b,h1,h2,h3,h4⟩:=kXb f.Value hn0 hv;have hp:=List.length_pos_iff.2 hn0;have hd:decide ((0:Int) < (f.Value.length:Int))=true:=by rw[decide_eq_true_eq];omega
  unfold v9b;rw[h1,h2,h3,h4,hd];simp only[Option.bind_some,YAa,cond_true];cases ywa a <;> rfl
 rw[he,h4];simp only[Option.bind_some];unfold codeQ fnP valP kmb;cases f.Name.all fnC <;> cases (f.Name !=([]:Str)) <;> cases decide (f.Name.length<=60) <;> (try rfl)
 simp only[Bool.and_true,Bool.not_true,Bool.false_eq_true,if_false,cond_false];by_cases h4000:4000 < f.Value.length
 .simp[h4000]
 simp only[h4000,decide_false,cond_false,if_false];cases f.Value.any endC <;> cases v9b f.Value <;> (try rfl)
 simp only[Bool.not_false,Bool.and_true,Bool.not_true,Bool.false_eq_true,if_false,cond_false];cases (flP f.Name f.Value).any fun s=>decide (998 < s.length) <;> rfl
def smallF(l:List zha):Prop:=l.length<=1048576/\∀f∈l,f.Name.length<=1048576/\f.Value.length<=1048576
def ZQa(i:Nat)(f:zha):Option zpa:=if KUa f !=0 then some ⟨KUa f,i⟩ else none
def Qya(l:List zha):zpa:=if 60 < l.length then ⟨2, -1⟩ else (zZa ZQa 0 l).getD ⟨0,0⟩
theorem dec60f(l:List zha):decide ((60:Int) < (l.length:Int))=decide (60 < l.length):=by generalize l.length=n;rw[Bool.eq_iff_iff];simp;omega
theorem Qza(l:List zha)(h:smallF l):vsa l=some (Qya l):=by
 obtain ⟨h1,h2⟩:=h;unfold vsa Qya;rw[zNa l ZQa (.inl ()) .inr]
 .simp only[Option.bind_some,zWa,kwa,Q5a,dec60f];by_cases h6:60 < l.length <;> simp[h6]
 .unfold via;rw[zAa];rfl
 intro i f hf;have hi:=zBa hf;obtain ⟨hn,hv⟩:=h2 f (List.mem_of_getElem? hf);unfold via ZQa;rw[zPa hf,zqa hf];simp only[cond_true,Option.bind_some,Vpa _ _ hn hv,kja,zWa,sc i (by omega)];show (bif KUa f !=0 then _ else _)=_;cases KUa f !=0 <;> rfl
theorem Q7a(l:List zha)(h:(Qya l).Code=0):¬60 < l.length/\zZa ZQa 0 l=none/\∀f∈l,KUa f=0:=by
 unfold Qya at h;by_cases h6:60 < l.length
 .rw[if_pos h6]at h;simp at h
 rw[if_neg h6]at h;cases hq:zZa ZQa 0 l with
 | some y=>
  rw[hq]at h;obtain ⟨i,f,h1,h2⟩:=j8a hq;unfold ZQa at h2;exfalso;by_cases hc:KUa f=0
  .simp[hc]at h2
  have:(KUa f !=0)=true:=by simpa using hc
  rw[this]at h2;simp at h2;subst h2;exact hc h
 | none=>
  refine ⟨h6,rfl,fun f hf=>?_⟩;obtain ⟨i,hi⟩:=List.getElem?_of_mem hf;have:=qva.1 hq i f hi;unfold ZQa at this;simpa using this
theorem k0b{f:zha}(h:KUa f=0):f.Name.length<=60/\f.Value.length<=4000/\klb f.Name f.Value=(flP f.Name f.Value,⟨0,0⟩)/\∀l∈flP f.Name f.Value,l.length<=998:=by
 have h0:=h;rw[kZb]at h;unfold codeQ at h;have h1:fnP f.Name=true:=by cases hx:fnP f.Name with
  | true=>rfl
  | false=>rw[hx]at h;simp at h
 rw[h1]at h;simp only[Bool.not_true,Bool.false_eq_true,if_false]at h;have h2:¬4000 < f.Value.length:=by intro hx;rw[if_pos hx]at h;simp at h
 rw[if_neg h2]at h;have h3:valP f.Value=true:=by cases hx:valP f.Value with
  | true=>rfl
  | false=>rw[hx]at h;simp at h
 rw[h3]at h;simp only[Bool.not_true,Bool.false_eq_true,if_false]at h;have h4:kmb (flP f.Name f.Value)=false:=by cases hx:kmb (flP f.Name f.Value) with
  | false=>rfl
  | true=>rw[hx]at h;simp at h
 refine ⟨?_,by omega,?_,?_⟩
 .unfold fnP at h1;simp only[Bool.and_eq_true,decide_eq_true_eq]at h1;exact h1.1.2
 .unfold klb;rw[h1,h3];simp only[Bool.not_true,Bool.false_eq_true,if_false,if_neg h2];have:=YCa (flP f.Name f.Value) 0;rw[h4]at this;cases hx:zZa Wna 0 (flP f.Name f.Value) with
  | none=>rfl
  | some y=>rw[hx]at this;cases this
 intro l hl;unfold kmb at h4;rw[List.any_eq_false]at h4;have:=h4 l hl;simp at this;omega
def addL(a:List UInt8)(l:Str):List UInt8:=a++l++ [13,10]
def addF(a:List UInt8)(f:zha):List UInt8:=(flP f.Name f.Value).foldl addL a
def jaa(m:zua):List UInt8:=m.Fields.foldl addF []++ [13,10]++m.Body
theorem k1b(l:List Str)(acc:List UInt8)(hl:l.length<=5000)(h9:∀s∈l,s.length<=998)(ha:acc.length<=1000000000){body:Int × List UInt8->Option (Step (Int × List UInt8) (List UInt8))}
 (h0:∀s,body ((l.length:Int),s)=some (.out s)) (h1:∀(i:Nat) x s,l[i]? =some x->s.length<=1006000000->body ((i:Int),s)=some (.cont (((i+1:Nat):Int),addL s x))):iter body (0,acc)=some (l.foldl addL acc)/\(l.foldl addL acc).length<=acc.length+1000 * l.length:=
 Qsa l (fun i s=>(i,s)) addL id (fun i s=>s.length<=acc.length+1000 * i) (body:=body) (fun s _=>h0 s) (fun i x s hx hi=>by
  have hlt:=zBa hx;have h9x:=h9 x (List.mem_of_getElem? hx);refine ⟨h1 i x s hx (by omega),?_⟩;unfold addL;simp;omega) acc (by simp)
theorem zib(l:List zha)(hl:l.length<=60)(hc:∀f∈l,KUa f=0){body:Int × List UInt8->Option (Step (Int × List UInt8) (List UInt8))}
 (h0:∀s,body ((l.length:Int),s)=some (.out s)) (h1:∀(i:Nat) f s,l[i]? =some f->s.length<=1000000000->body ((i:Int),s)=some (.cont (((i+1:Nat):Int),addF s f))/\(addF s f).length<=s.length+5000000):iter body (0,([]:List UInt8))=some (l.foldl addF [])/\(l.foldl addF []).length<=5000000 * l.length:=
 Qsa l (fun i s=>(i,s)) addF id (fun i s=>s.length<=5000000 * i) (body:=body) (fun s _=>h0 s) (fun i f s hf hi=>by
  have hlt:=zBa hf;obtain ⟨q1,q2⟩:=h1 i f s hf (by omega);exact ⟨q1,by omega⟩) [] (by simp)
theorem Vza(m:zua)(hb:m.Body.length<=1048576)(h60:m.Fields.length<=60)(hc:∀f∈m.Fields,KUa f=0):wya m=some (jaa m):=by
 unfold wya jaa;obtain ⟨h1,h2⟩:=zib m.Fields h60 hc (body:=q5a m) (fun s=>by unfold q5a;rw[zAa];rfl) (fun i f s hf hs=>by
  have hi:=zBa hf;obtain ⟨c1,c2,c3,c4⟩:=k0b (hc f (List.mem_of_getElem? hf));have hfl:=kYb f.Name f.Value;obtain ⟨q1,q2⟩:=k1b (flP f.Name f.Value) s (by omega) c4 hs (body:=q4a (klb f.Name f.Value)) (fun s=>by unfold q4a;rw[c3,zAa];rfl) (fun k x s hx hs=>by
   have hk:=zBa hx;have:=c4 x (List.mem_of_getElem? hx);unfold q4a;rw[c3,zPa hx,zqa hx];simp only[cond_true,Option.bind_some,sc k (by omega)];rw[vka (by omega)];simp only[Option.bind_some];rw[vka (by simp;omega)];rfl)
  unfold addF;refine ⟨?_,by omega⟩;unfold q5a;rw[zPa hf,zqa hf];simp only[cond_true,Option.bind_some,Vpa f.Name f.Value (by omega) (by omega),q1,sc i (by omega)])
 rw[h1];simp only[Option.bind_some];rw[vka (by simp;omega)];simp only[Option.bind_some];rw[vka (by simp;omega)];rfl
theorem Q8a(m:zua)(hb:m.Body.length<=1048576)(h60:m.Fields.length<=60)(hc:∀f∈m.Fields,KUa f=0):vYa m=some (jaa m):=by
 unfold vYa jaa;obtain ⟨h1,h2⟩:=zib m.Fields h60 hc (body:=qOa m) (fun s=>by unfold qOa;rw[zAa];rfl) (fun i f s hf hs=>by
  have hi:=zBa hf;obtain ⟨c1,c2,c3,c4⟩:=k0b (hc f (List.mem_of_getElem? hf));have hfl:=kYb f.Name f.Value;obtain ⟨q1,q2⟩:=k1b (flP f.Name f.Value) s (by omega) c4 hs (body:=qNa (flP f.Name f.Value)) (fun s=>by unfold qNa;rw[zAa];rfl) (fun k x s hx hs=>by
   have hk:=zBa hx;have:=c4 x (List.mem_of_getElem? hx);unfold qNa;rw[zPa hx,zqa hx];simp only[cond_true,Option.bind_some,sc k (by omega)];rw[vka (by omega)];simp only[Option.bind_some];rw[vka (by simp;omega)];rfl)
  unfold addF;refine ⟨?_,by omega⟩;unfold qOa;rw[zPa hf,zqa hf];simp only[cond_true,Option.bind_some,ZPa f.Name f.Value (by omega) (by omega),q1,sc i (by omega)])
 rw[h1];simp only[Option.bind_some];rw[vka (by simp;omega)];simp only[Option.bind_some];rw[vka (by simp;omega)];rfl
def WYa:Nat->List UInt8->Option Bool
 | _,[]=>none
 | c,[x]=>if x==13 || x==10 then some true else if 998 < c+1 then some false else none
 | c,x::y::r=>if x==13 && y==10 then WYa 0 r else if x==13 || x==10 then some true else if 998 < c+1 then some false else WYa (c+1) (y::r)
def QAa{O:Type}(e:Bool->O)(c i:Nat)(x:UInt8)(r:List UInt8):Step (Int × Int) (Unit ⊕ O):=
 if x==13 && r.head? ==some 10 then .cont (0,((i+2:Nat):Int)) else if x==13 || x==10 then .out (.inr (e true)) else if 998 < c+1 then .out (.inr (e false)) else .cont (((c+1:Nat):Int),((i+1:Nat):Int))
theorem zjb{O:Type}(e:Bool->O)(l:List UInt8){body:Int × Int->Option (Step (Int × Int) (Unit ⊕ O))}
 (h0:∀c,body (c,(l.length:Int))=some (.out (.inl ())))
 (hs:∀(c:Nat) (p:List UInt8) x r,l=p++x::r->c<=998->body ((c:Int),(p.length:Int))=some (QAa e c p.length x r)):
 ∀(n:Nat) (r p:List UInt8) (c:Nat),r.length<=n->l=p++r->c<=998->iter body ((c:Int),(p.length:Int))=some ((WYa c r).elim (.inl ()) fun b=>.inr (e b)):=by
 intro n;induction n with
 | zero=>
  intro r p c hr hl hc;obtain rfl:r=[]:=List.length_eq_zero_iff.1 (by omega);have:p=l:=by simp[hl]
  subst this;exact zEa (h0 _)
 | succ n ih=>
  intro r p c hr hl hc
  match r,hr,hl with
  | [],_,hl=>
   have:p=l:=by simp[hl]
   subst this;exact zEa (h0 _)
  | [x],hr,hl=>
   have hb:=hs c p x [] hl hc;unfold QAa at hb;have e1:(x==13 && ([]:List UInt8).head? ==some 10)=false:=by simp
   rw[e1]at hb;simp only[Bool.false_eq_true,if_false]at hb;unfold WYa;cases hx:(x==13 || x==10) with
   | true=>rw[hx]at hb;exact zEa hb
   | false=>
    rw[hx]at hb;simp only[Bool.false_eq_true,if_false]at hb ⊢;by_cases h9:998 < c+1
    .rw[if_pos h9]at hb ⊢;exact zEa hb
    rw[if_neg h9]at hb ⊢;rw[zSa hb];have:=ih [] (p++ [x]) (c+1) (by simp) (by simp[hl]) (by omega);rw[List.length_append]at this;exact this
  | x::y::r,hr,hl=>
   have hb:=hs c p x (y::r) hl hc;unfold QAa at hb;have e1:((y::r).head? ==some (10:UInt8))=(y==10):=by simp
   rw[e1]at hb;unfold WYa;cases hxy:(x==13 && y==10) with
   | true=>
    rw[hxy]at hb;simp only[if_true]at hb ⊢;rw[zSa hb];have:=ih r (p++ [x,y]) 0 (by simp at hr;omega) (by simp[hl]) (by omega);rw[List.length_append]at this;exact this
   | false=>
    rw[hxy]at hb;simp only[Bool.false_eq_true,if_false]at hb ⊢;cases hx:(x==13 || x==10) with
    | true=>rw[hx]at hb;exact zEa hb
    | false=>
     rw[hx]at hb;simp only[Bool.false_eq_true,if_false]at hb ⊢;by_cases h9:998 < c+1
     .rw[if_pos h9]at hb ⊢;exact zEa hb
     rw[if_neg h9]at hb ⊢;rw[zSa hb];have:=ih (y::r) (p++ [x]) (c+1) (by simp at hr ⊢;omega) (by simp[hl]) (by omega);rw[List.length_append]at this;exact this
theorem web{l p r:List UInt8}{x:UInt8}(h:l=p++x::r)(hl:l.length<=1048576):(bif decide (((p.length+1:Nat):Int) < (l.length:Int)) then (idx l ((p.length+1:Nat):Int)).bind fun v13=>some (((v13.toNat:Int)==10)) else some false)=some (r.head? ==some 10):=by
 subst h;simp at hl;cases r with
 | nil=>
  have:decide (((p.length+1:Nat):Int) < ((p++ [x]).length:Int))=false:=by simp
  rw[this];rfl
 | cons y r=>
  have:decide (((p.length+1:Nat):Int) < ((p++x::y::r).length:Int))=true:=by simp;omega
  rw[this,Wia];have:(p++x::y::r)[p.length+1]? =some y:=by simp[List.getElem?_append_right]
  rw[this];simp only[cond_true,Option.bind_some,jfa y 10 (by decide)];simp
theorem Jta(l:List UInt8)(hl:l.length<=1048576):jNa l=some ((WYa 0 l).elim 0 fun b=>bif b then 11 else 1):=by
 unfold jNa;have:=zjb (fun b:Bool=>bif b then (11:Int) else 1) l (body:=vHa l) (fun c=>by unfold vHa;rw[zAa];rfl) (fun c p x r h hc=>by
  have hx:l[p.length]? =some x:=by simp[h]
  have hi:=zBa hx;unfold vHa wza QAa;dsimp only;rw[zPa hx,zqa hx];simp only[cond_true,Option.bind_some,jfa x 13 (by decide),jfa x 10 (by decide),sc p.length (by omega),sc (p.length+1) (by omega),sc c (by omega)];rw[web h hl];have h9:decide ((998:Int) < ((c+1:Nat):Int))=decide (998 < c+1):=by rw[Bool.eq_iff_iff];simp;omega
  rw[h9];by_cases h98:998 < c+1 <;> simp only[h98,decide_true,decide_false,if_true,if_false] <;> cases x==13 <;> cases x==10 <;> cases r.head? ==some 10 <;> rfl) l.length l [] 0 (Nat.le_refl _) rfl (by omega)
 have h2:iter (vHa l) (0,0)=_:=this;rw[h2];cases WYa 0 l with
 | none=>rfl
 | some b=>cases b <;> rfl
def bodyF(l:List UInt8):zpa:=(WYa 0 l).elim ⟨0,0⟩ fun b=>bif b then ⟨11, -5⟩ else ⟨1, -6⟩
theorem Woa(l:List UInt8)(hl:l.length<=1048576):yda l=some (bodyF l):=by
 unfold yda bodyF;rw[Jta l hl];cases WYa 0 l with
 | none=>rfl
 | some b=>cases b <;> rfl
def msgF(m:zua):zpa:=if (Qya m.Fields).Code !=0 then Qya m.Fields else if 12000 < (jaa m).length then ⟨1, -4⟩ else bodyF m.Body
def YDa(m:zua):Prop:=smallF m.Fields/\m.Body.length<=1048576
theorem KVa(m:zua)(h:YDa m):q6a m=some (msgF m):=by
 obtain ⟨h1,h2⟩:=h;unfold q6a msgF;rw[Qza _ h1];simp only[Option.bind_some,kja,zWa,Woa _ h2];cases hc:(Qya m.Fields).Code !=0 with
 | true=>rfl
 | false=>
  obtain ⟨q1,q2,q3⟩:=Q7a m.Fields (by simpa using hc);rw[Vza m h2 (by omega) q3];simp only[Option.bind_some,cond_false,Bool.false_eq_true,if_false];have:decide ((12000:Int) < ((jaa m).length:Int))=decide (12000 < (jaa m).length):=by generalize (jaa m).length=n;rw[Bool.eq_iff_iff];simp;omega
  rw[this];by_cases hb:12000 < (jaa m).length <;> simp[hb]
theorem Q9a(m:zua)(h:YDa m):vea m=some (msgF m):=by
 obtain ⟨⟨h1,h3⟩,h2⟩:=h;unfold vea msgF;rw[zNa m.Fields ZQa (.inl ()) .inr]
 .have hbl:iter (kTa m) (0,0)=_:=zjb (fun b:Bool=>bif b then (⟨11, -5⟩:zpa) else ⟨1, -6⟩) m.Body (body:=kTa m) (fun c=>by unfold kTa;rw[zAa];rfl) (fun c p x r h hc=>by
   have hx:m.Body[p.length]? =some x:=by simp[h]
   have hi:=zBa hx;unfold kTa qPa QAa;dsimp only;rw[zPa hx,zqa hx];simp only[cond_true,Option.bind_some,jfa x 13 (by decide),jfa x 10 (by decide),sc p.length (by omega),sc (p.length+1) (by omega),sc c (by omega),wVa];rw[web h h2];have h9:decide ((998:Int) < ((c+1:Nat):Int))=decide (998 < c+1):=by rw[Bool.eq_iff_iff];simp;omega
   rw[h9];by_cases h98:998 < c+1 <;> simp only[h98,decide_true,decide_false,if_true,if_false] <;> cases x==13 <;> cases x==10 <;> cases r.head? ==some 10 <;> rfl) m.Body.length m.Body [] 0 (Nat.le_refl _) rfl (by omega)
  rw[hbl,dec60f];simp only[Option.bind_some,wVa];by_cases h6:60 < m.Fields.length
  .have:Qya m.Fields=⟨2, -1⟩:=by unfold Qya;rw[if_pos h6]
   rw[this];simp[h6]
  simp only[h6,decide_false,cond_false];have hh:Qya m.Fields=(zZa ZQa 0 m.Fields).getD ⟨0,0⟩:=by unfold Qya;rw[if_neg h6]
  cases hq:zZa ZQa 0 m.Fields with
  | some y=>
   rw[hq]at hh;have hc:((Qya m.Fields).Code !=0)=true:=by
    cases hc:(Qya m.Fields).Code !=0 with
    | true=>rfl
    | false=>
     obtain ⟨_,q2,_⟩:=Q7a m.Fields (by simpa using hc);rw[hq]at q2;cases q2
   rw[hc,hh];rfl
  | none=>
   rw[hq]at hh;have hz:Qya m.Fields=⟨0,0⟩:=hh;obtain ⟨q1,q2,q3⟩:=Q7a m.Fields (by rw[hz]);rw[Q8a m h2 (by omega) q3,hz];simp only[Option.bind_some,Option.elim_none,Sum.elim_inl];have hbb:m.Body.length<=(jaa m).length:=by unfold jaa;simp;omega
   have e2:(bif decide ((12000:Int) < (m.Body.length:Int)) then some true else some (decide ((12000:Int) < ((jaa m).length:Int))))=some (decide (12000 < (jaa m).length)):=by
    generalize (jaa m).length=n at *;by_cases hx:12000 < m.Body.length
    .have e3:decide ((12000:Int) < (m.Body.length:Int))=true:=by rw[decide_eq_true_eq];omega
     have e4:decide (12000 < n)=true:=by rw[decide_eq_true_eq];omega
     rw[e3,e4];rfl
    have e3:decide ((12000:Int) < (m.Body.length:Int))=false:=by rw[decide_eq_false_iff_not];omega
    rw[e3];simp only[cond_false,Option.some.injEq];rw[Bool.eq_iff_iff];simp;omega
   rw[e2];simp only[Option.bind_some];unfold bodyF;by_cases hb:12000 < (jaa m).length
   .simp[hb]
   simp only[hb,decide_false,cond_false,if_false];cases WYa 0 m.Body <;> rfl
 .unfold vIa;rw[zAa];rfl
 intro i f hf;have hi:=zBa hf;obtain ⟨hn,hv⟩:=h3 f (List.mem_of_getElem? hf);unfold vIa ZQa;rw[zPa hf,zqa hf];simp only[cond_true,Option.bind_some,WXa _ hn hv,wVa,sc i (by omega)];cases KUa f !=0 <;> rfl
instance:DecidableEq zca:=fun a b=>decidable_of_iff (a.Address=b.Address/\a.Notify=b.Notify) (by cases a;cases b;simp)
instance:DecidableEq zpa:=fun a b=>decidable_of_iff (a.Code=b.Code/\a.Index=b.Index) (by cases a;cases b;simp)
instance:DecidableEq zCa:=fun a b=>decidable_of_iff (a.From=b.From/\a.To=b.To/\a.Id=b.Id) (by cases a;cases b;simp)
theorem rec_eq(a b:zca):z2a [(a.Address==b.Address),(a.Notify==b.Notify)]=(a==b):=by
 cases a;cases b;rw[Bool.eq_iff_iff];simp[z2a]
def Wpa(s:Str):Str:=if atP s < s.length then s.drop (atP s+1) else []
theorem qPb(s:Str):(Ywa s).2.1=Wpa s:=by
 unfold Ywa Wpa;by_cases h:atP s < s.length
 .rw[if_pos h,if_pos h]
 rw[if_neg h,if_neg h]
theorem Jua(s:Str)(hs:s.length<=1048576):jJa s=some (Wpa s):=by
 unfold jJa Wpa;rw[zcb s (by omega)];have hle:atP s<=s.length:=List.findIdx_le_length;simp only[Option.bind_some];by_cases h:atP s < s.length
 .have e:(((atP s:Nat):Int)==(s.length:Int))=false:=by rw[beq_eq_false_iff_ne];omega
  rw[e,if_pos h,sc _ (by omega)];simp only[cond_false];rw[Vma (by omega)];rfl
 have e:(((atP s:Nat):Int)==(s.length:Int))=true:=by rw[beq_iff_eq];omega
 rw[e,if_neg h];rfl
theorem wfb{α:Type}(l:List α)(i:Nat)(z:α)(h:i<=l.length):(clr0 l i z).take i=l.take i:=by
 unfold clr0;simp[List.take_append,h]
def Wqa(s:Str)(r:zca):Bool:=r.Address==s
def knb(out:List zca)(s:Str):Bool:=out.any (Wqa s)
def putR(out:List zca)(r:zca):List zca:=if knb out r.Address then out.map (fun x=>if Wqa r.Address x then ⟨x.Address,iOr x.Notify r.Notify⟩ else x) else out++ [r]
def posA(out:List zca)(s:Str):Option Nat:=out.findIdx? (Wqa s)
theorem posA_has(out:List zca)(s:Str):(posA out s).isSome=knb out s:=by unfold posA knb;exact List.findIdx?_isSome
theorem posA_app(out:List zca)(r:zca)(s:Str)(h:knb out r.Address=false):posA (out++ [r]) s=if r.Address==s then some out.length else posA out s:=by
 unfold posA;rw[List.findIdx?_append];by_cases hs:(r.Address==s)=true
 .rw[if_pos hs];have e:r.Address=s:=beq_iff_eq.1 hs;subst e;have:out.findIdx? (Wqa r.Address)=none:=by
   have:=posA_has out r.Address;rw[h]at this;unfold posA at this;simpa using this
  rw[this];simp[Wqa]
 rw[if_neg hs];have:Wqa s r=false:=by unfold Wqa;simpa using hs
 simp[List.findIdx?_cons,this]
theorem posA_map(out:List zca)(f:zca->zca)(hf:∀x,(f x).Address=x.Address)(s:Str):posA (out.map f) s=posA out s:=by
 unfold posA;rw[List.findIdx?_map]
 congr 1
 funext x;simp[Function.comp,Wqa,hf]
structure MInv (i:Nat) (out:List zca) (m:List (Str × Int)):Prop where
 len:out.length<=i
 nd:(out.map (·.Address)).Nodup
 mp:∀s,mget m s=(posA out s).map fun k=>((k:Nat):Int)
theorem MInv.put{i:Nat}{out:List zca}{m:List (Str × Int)}(h:MInv i out m)(r:zca):MInv (i+1) (putR out r) (if knb out r.Address then m else mput m r.Address (out.length:Int)):=by
 unfold putR;cases hh:knb out r.Address with
 | true=>
  simp only[if_true];have hf:∀x:zca,(if Wqa r.Address x then (⟨x.Address,iOr x.Notify r.Notify⟩:zca) else x).Address=x.Address:=by intro x;split <;> rfl
  refine ⟨by simp;have:=h.len;omega,?_,fun s=>?_⟩
  .rw[List.map_map,show ((·.Address) ∘ fun x:zca=>if Wqa r.Address x then (⟨x.Address,iOr x.Notify r.Notify⟩:zca) else x)=(·.Address) from funext hf];exact h.nd
  rw[posA_map _ _ hf];exact h.mp s
 | false=>
  simp only[Bool.false_eq_true,if_false];refine ⟨by simp;exact h.len,?_,fun s=>?_⟩
  .rw[List.map_append,List.nodup_append];refine ⟨h.nd,by simp,?_⟩;intro a ha b hb;simp at hb;subst hb;rintro rfl;obtain ⟨x,hx,hxe⟩:=List.mem_map.1 ha;unfold knb at hh;rw[List.any_eq_false]at hh;exact hh x hx (by simp[Wqa,hxe])
  rw[qKb,posA_app _ _ _ hh,h.mp s];by_cases hs:(r.Address==s)=true
  .rw[if_pos hs,if_pos hs];rfl
  rw[if_neg hs,if_neg hs]
theorem recF_ok(l:List zca)(h:(recF l).Code=0):recF l=⟨0,0⟩:=by
 unfold recF at h ⊢;cases hf:zZa (recQ l) 0 l with
 | none=>rfl
 | some f=>
  exfalso;obtain ⟨i,x,hx,hq⟩:=j8a hf;rw[hf]at h;unfold recQ at hq;split at hq
  .cases hq;simp at h
  split at hq
  .cases hq;simp at h
  split at hq
  .cases hq;simp at h
  cases hq
theorem envF_ok(e:zCa)(h:(envF e).Code=0):envF e=⟨0,0⟩:=by
 unfold envF at h ⊢;split
 .rename_i h1;rw[if_pos h1]at h;simp at h
 rename_i h1;rw[if_neg h1]at h;split
 .rename_i h2;rw[if_pos h2]at h;simp at h
 rename_i h2;rw[if_neg h2]at h;split
 .rename_i h3;rw[if_pos h3]at h;simp at h
 rename_i h3;rw[if_neg h3]at h;exact recF_ok _ h
theorem wgb{m:zua}(h:zua.bk m<=1048576):YDa m:=by
 unfold zua.bk at h;have h1:=KTa (bk:=zha.bk) (fun x=>by unfold zha.bk;omega) m.Fields;have h2:=KTa (bk:=fun _:UInt8=>1) (fun x=>by simp) m.Body;refine ⟨⟨by omega,fun f hf=>?_⟩,by omega⟩;have h5:=Jla (bk:=zha.bk) hf;have h6:zha.bk f=f.Name.length+1+(f.Value.length+1)+1:=rfl;omega
def Zaa(m:ksa):zpa:=if (envF m.Envelope).Code !=0 then envF m.Envelope else if (msgF m.Message).Code !=0 then ⟨(msgF m.Message).Code, -30⟩ else ⟨0,0⟩
theorem jTa(m:ksa)(h1:Yxa m.Envelope)(h2:YDa m.Message):vda m=some (Zaa m):=by
 unfold vda Zaa;rw[Kna _ h1,KVa _ h2];simp only[Option.bind_some,kja,zWa,kwa];cases (envF m.Envelope).Code !=0 <;> cases (msgF m.Message).Code !=0 <;> rfl
theorem WZa(m:ksa)(h1:Yxa m.Envelope)(h2:YDa m.Message):yZa m=some (Zaa m):=by
 unfold yZa Zaa;rw[Qwa _ h1,Q9a _ h2];simp only[Option.bind_some,wVa];by_cases hc:(envF m.Envelope).Code=0
 .have hz:=envF_ok _ hc;rw[hz];cases h:(msgF m.Message).Code !=0 <;> simp[h]
 have e1:((envF m.Envelope).Code !=0)=true:=by simpa using hc
 have e2:((envF m.Envelope).Code==0)=false:=by simpa using hc
 rw[e1,e2];simp only[cond_false,Option.bind_some,if_true]
theorem wIa(t:Int):qKa t=some (decide (-68719476736<=t) && decide (t<=68719476736)):=by
 unfold qKa;by_cases h:(-68719476736:Int)<=t <;> simp[h]
def add1(o:List Str)(x:Str):List Str:=if o.contains x then o else o++ [x]
def YEa(o xs:List Str):List Str:=xs.foldl add1 o
theorem add1_mem(o:List Str)(x y:Str):y∈add1 o x↔y∈o∨y=x:=by
 unfold add1;split
 .rename_i h;simp at h;constructor
  .exact .inl
  rintro (h1 | rfl)
  .exact h1
  exact h
 simp
theorem kob(o:List Str)(x:Str):o <+:add1 o x:=by
 unfold add1;split
 .exact List.prefix_refl _
 exact List.prefix_append _ _
theorem qQb{o:List Str}(h:o.Nodup)(x:Str):(add1 o x).Nodup:=by
 unfold add1;split
 .exact h
 rename_i hx;simp at hx;rw[List.nodup_append];exact ⟨h,by simp,fun a ha b hb hab=>by simp at hb;subst hb;subst hab;exact hx ha⟩
theorem qRb(xs:List Str):∀(o:List Str) (y:Str),y∈YEa o xs↔y∈o∨y∈xs:=by
 induction xs with
 | nil=>intro o y;simp[YEa]
 | cons x xs ih=>intro o y;show y∈YEa (add1 o x) xs↔_;rw[ih,add1_mem];simp[or_assoc]
theorem Jva(xs:List Str):∀o:List Str,o <+:YEa o xs:=by
 induction xs with
 | nil=>intro o;exact List.prefix_refl _
 | cons x xs ih=>intro o;exact (kob o x).trans (ih _)
theorem zkb(xs:List Str):∀{o:List Str},o.Nodup->(YEa o xs).Nodup:=by
 induction xs with
 | nil=>intro o h;exact h
 | cons x xs ih=>intro o h;exact ih (qQb h x)
theorem nodup_le{l m:List Str}(hl:l.Nodup)(h:∀x∈l,x∈m):l.length<=m.length:=by
 induction l generalizing m with
 | nil=>simp
 | cons x l ih=>
  have hx:x∈m:=h x (by simp);obtain ⟨hxl,hl'⟩:=List.nodup_cons.1 hl;have:=ih (m:=m.erase x) hl' (fun y hy=>by
   have hne:y≠x:=by rintro rfl;exact hxl hy
   exact (List.mem_erase_of_ne hne).2 (h y (by simp[hy])))
  rw[List.length_erase_of_mem hx]at this;have:0 < m.length:=List.length_pos_of_mem hx;simp;omega
def tgtO(l:List jja)(s:Str):Option (List Str):=(l.find? (fun a=>a.Address==s)).map (·.To)
def tgt(l:List jja)(s:Str):List Str:=(tgtO l s).getD []
def univ(l:List jja)(from_:List Str):List Str:=from_++l.flatMap (·.To)
theorem tgt_sub(l:List jja)(s x:Str)(h:x∈tgt l s):∃a∈l,a.Address=s/\x∈a.To:=by
 unfold tgt tgtO at h;cases hf:l.find? (fun a=>a.Address==s) with
 | none=>rw[hf]at h;simp at h
 | some a=>
  rw[hf]at h;have:=List.find?_some hf;exact ⟨a,List.mem_of_find?_eq_some hf,by simpa using this,by simpa using h⟩
structure Inv (l:List jja) (U:List Str) (k:Nat) (out:List Str):Prop where
 nd:out.Nodup
 sub:∀x∈out,x∈U
 le:k<=out.length
theorem Inv.len{l:List jja}{U:List Str}{k:Nat}{out:List Str}(h:Inv l U k out):out.length<=U.length:=nodup_le h.nd h.sub
theorem Inv.step{l:List jja}{from_:List Str}{k:Nat}{out:List Str}(h:Inv l (univ l from_) k out){s:Str}(hs:out[k]? =some s):Inv l (univ l from_) (k+1) (YEa out (tgt l s)):=by
 refine ⟨zkb _ h.nd,fun x hx=>?_,?_⟩
 .rcases (qRb _ _ _).1 hx with h1 | h1
  .exact h.sub x h1
  obtain ⟨a,ha,_,hxa⟩:=tgt_sub l s x h1;exact List.mem_append.2 (.inr (List.mem_flatMap.2 ⟨a,ha,hxa⟩))
 have:=(Jva (tgt l s) out).length_le;have:=zBa hs;omega
theorem k2b{α β:Type}(f:α->β)(l:List α):∀o:List β,l.foldl (fun o x=>o++ [f x]) o=o++l.map f:=by
 induction l with
 | nil=>intro o;simp
 | cons x l ih=>intro o;simp[ih]
instance:DecidableEq zha:=fun a b=>decidable_of_iff (a.Name=b.Name/\a.Value=b.Value) (by cases a;cases b;simp)
instance:DecidableEq zua:=fun a b=>decidable_of_iff (a.Fields=b.Fields/\a.Body=b.Body) (by cases a;cases b;simp)
instance:DecidableEq ksa:=fun a b=>decidable_of_iff (a.Envelope=b.Envelope/\a.Message=b.Message) (by cases a;cases b;simp)
def KWa(m:ksa):Prop:=Yxa m.Envelope/\YDa m.Message
theorem QBa{α:Type}{lim:Nat}(l:List α)(h:l.length<=lim):(nilE l.isEmpty (some ([]:List α)) ((app lim ([]:List α) l).bind fun v=>some v))=some l:=by
 rw[vka (by simpa using h)];simp only[List.nil_append,Option.bind_some];exact JOa _ _ _ (fun he=>by rw[List.isEmpty_iff.1 he])
theorem ZRa(l:List zha)(h:l.length<=1048576):z8a l=some l:=QBa l (by omega)
theorem jUa(m:ksa)(h:KWa m):kGa m=some m:=by
 obtain ⟨⟨_,_,h1,_⟩,⟨h2,_⟩,h3⟩:=h;unfold kGa;rw[QBa m.Envelope.To (by omega)];simp only[Option.bind_some];rw[ZRa _ h2,QBa m.Message.Body (by omega)];rfl
theorem QCa{α:Type}{L:List α}{i:Nat}{x:α}(h:L[i]? =some x):L.set i x=L:=by
 apply List.ext_getElem?;intro j;rw[List.getElem?_set];split
 .rename_i hij;subst hij;split
  .exact h.symm
  rename_i hn;exact absurd (zBa h) hn
 rfl
theorem delAt_eq{α:Type}(L:List α)(k:Nat)(z:α)(hk:k < L.length)(hl:L.length<=1048576):((cut3 L (k:Int) ((w64 ((k:Int)+1))) ((L.length:Int))).bind fun v34=>(bif ((k:Int)==(w64 ((k:Int)+1))) then some L else (cut L 0 (k:Int)).bind fun v37=>(cut L ((w64 ((k:Int)+1))) (L.length:Int)).bind fun v39=>(shft L (k:Int) ((w64 ((k:Int)+1)))).bind fun v41=>(V4a v41 (((((Int.toNat (k:Int))+(L.length - (Int.toNat ((w64 ((k:Int)+1)))))):Nat):Int)) ((L.length:Int))).bind fun v43=>some ((List.take ((Int.toNat (k:Int))+(L.length - (Int.toNat ((w64 ((k:Int)+1)))))) ((clr0 v41 (Int.toNat (((((Int.toNat (k:Int))+(L.length - (Int.toNat ((w64 ((k:Int)+1)))))):Nat):Int))) z))))))=some (L.take k++L.drop (k+1)):=by
 rw[sc k (by omega)];have e1:cut3 L (k:Int) ((k+1:Nat):Int) (L.length:Int)=some ():=by unfold cut3;rw[if_pos ⟨by omega,by omega,by omega,by omega⟩]
 have e2:((k:Int)==((k+1:Nat):Int))=false:=by rw[beq_eq_false_iff_ne];omega
 rw[e1,e2,Wja (by omega),Vma (by omega)];simp only[Option.bind_some,cond_false,Int.toNat_natCast];have e3:shft L (k:Int) ((k+1:Nat):Int)=some (L.take k++L.drop (k+1)++L.drop (k+(L.length - (k+1)))):=by
  unfold shft;rw[if_pos ⟨by omega,by omega,by omega⟩];simp only[Int.toNat_natCast]
 rw[e3];simp only[Option.bind_some];have hlen:(L.take k++L.drop (k+1)++L.drop (k+(L.length - (k+1)))).length=L.length:=by simp;omega
 have e4:V4a (L.take k++L.drop (k+1)++L.drop (k+(L.length - (k+1)))) ((k+(L.length - (k+1)):Nat):Int) (L.length:Int)=some ():=by
  unfold V4a;rw[if_pos ⟨by omega,by omega,by rw[hlen]⟩]
 rw[e4];simp only[Option.bind_some];rw[wfb _ _ _ (by rw[hlen];omega)];have e5:(L.take k++L.drop (k+1)).length=k+(L.length - (k+1)):=by simp;omega
 rw[<-e5,List.take_left'];rfl
theorem QDa(m:zua)(hf:m.Fields.length<=1048576):wBa m m=some true:=by
 unfold wBa;have e1:((m.Fields.length:Int) !=(m.Fields.length:Int))=false:=by simp
 have e2:(m.Body !=m.Body)=false:=by simp
 rw[e1,e2];simp only[cond_false,Option.bind_some];rw[zNa m.Fields (fun _ _=>none) (.inl ()) .inr]
 .have:zZa (fun _ _=>(none:Option Bool)) 0 m.Fields=none:=by rw[qva];intro i x _;rfl
  simp only[Option.bind_some];rw[this];rfl
 .unfold v6a;rw[zAa];rfl
 intro i f hx;have hi:=zBa hx;unfold v6a;rw[zPa hx,zqa hx];simp only[cond_true,Option.bind_some,sc i (by omega)];simp[z2a]
theorem Wra(m:ksa)(h1:m.Envelope.To.length<=1048576)(h2:m.Message.Fields.length<=1048576):jOa m m=some true:=by
 unfold jOa;have e1:(m.Envelope.From !=m.Envelope.From)=false:=by simp
 have e2:(m.Envelope.Id !=m.Envelope.Id)=false:=by simp
 have e3:((m.Envelope.To.length:Int) !=(m.Envelope.To.length:Int))=false:=by simp
 rw[e1,e2,e3];simp only[cond_false,Option.bind_some];rw[zNa m.Envelope.To (fun _ _=>none) (.inl ()) .inr]
 .have:zZa (fun _ _=>(none:Option Bool)) 0 m.Envelope.To=none:=by rw[qva];intro i x _;rfl
  simp only[Option.bind_some];rw[this];simp only[Option.elim_none,Sum.elim_inl];rw[QDa _ h2];rfl
 .unfold yCa;rw[zAa];rfl
 intro i f hx;have hi:=zBa hx;unfold yCa;rw[zPa hx,zqa hx];simp only[cond_true,Option.bind_some,sc i (by omega)];simp[z2a]
theorem YFa{m:ksa}(h:ksa.bk m<=1048576):KWa m:=by
 have hb:ksa.bk m=zCa.bk m.Envelope+zua.bk m.Message+1:=rfl;exact ⟨v5b (by omega),wgb (by omega)⟩
def wBad(w:zda)(r:zca):Bool:= !(w.Recipient==r) || (!(w.Result==0) && !(w.Result==1) && !(w.Result==3)) || (w.Busy && !(w.Result==0))
def opnW(w:zda):Bool:=w.Result==0
def Koa(e:zba):Bool:=decide (e.To.length=e.Mail.Envelope.To.length) && !((e.To.zip e.Mail.Envelope.To).any fun p=>wBad p.1 p.2) && e.To.any opnW
theorem whb(w:zda)(r:zca):((bif (!(z2a [(w.Recipient.Address==r.Address),(w.Recipient.Notify==r.Notify)])) then some true else (bif (w.Result !=0) then (bif (w.Result !=1) then (bif (w.Result !=3) then some true else (bif w.Busy then some ((w.Result !=0)) else some false)) else (bif w.Busy then some ((w.Result !=0)) else some false)) else (bif w.Busy then some ((w.Result !=0)) else some false))):Option Bool)=some (wBad w r):=by
 rw[rec_eq];unfold wBad;by_cases h0:w.Result=0
 .rw[h0];cases w.Recipient==r <;> cases w.Busy <;> rfl
 have e0:(w.Result==0)=false:=beq_eq_false_iff_ne.2 h0;simp only[bne,e0];cases w.Recipient==r <;> cases w.Busy <;> cases w.Result==1 <;> cases w.Result==3 <;> rfl
theorem wib{α β:Type}{a:List α}{b:List β}{p:List (α × β)}{x:α × β}{r:List (α × β)}(h:a.zip b=p++x::r):a[p.length]? =some x.1/\b[p.length]? =some x.2:=by
 have:(a.zip b)[p.length]? =some x:=by rw[h];simp
 rw[List.getElem?_zip_eq_some]at this;exact this
theorem kpb{β:Type}(q:zda->Bool):∀{a:List zda} {b:List β},a.length=b.length->((a.zip b).any fun p=>q p.1)=a.any q
 | [],_,_=>by simp
 | x::a,[],h=>by simp at h
 | x::a,y::b,h=>by simp only[List.zip_cons_cons,List.any_cons];rw[kpb q (by simpa using h)]
theorem Zna(e:zba)(h:e.To.length<=1048576):qZa e=some (Koa e):=by
 unfold qZa Koa;by_cases hl:e.To.length=e.Mail.Envelope.To.length
 .rw[show ((e.To.length:Int) !=(e.Mail.Envelope.To.length:Int))=false by rw[hl];simp];simp only[cond_false];have hz:(e.To.zip e.Mail.Envelope.To).length=e.To.length:=by rw[List.length_zip];omega
  have hloop:iter (k7a e) (false,0)=some (if (e.To.zip e.Mail.Envelope.To).any (fun p=>wBad p.1 p.2) then .inr false else .inl (false || (e.To.zip e.Mail.Envelope.To).any fun p=>opnW p.1)):=by
   refine ZNa (e.To.zip e.Mail.Envelope.To) (fun n s=>(s,(n:Int))) (fun n r s=>(if r.any (fun p=>wBad p.1 p.2) then .inr false else .inl (s || r.any fun p=>opnW p.1):Bool ⊕ Bool)) (fun s=>?_) (fun p x r s hp=>?_) false rfl
   .unfold k7a;dsimp only;rw[hz,zAa];simp
   obtain ⟨g1,g2⟩:=wib hp;have hlt:=zBa g1;have hb:k7a e (s,(p.length:Int))=some (if wBad x.1 x.2 then .out (.inr false) else .cont (s || opnW x.1,((p.length+1:Nat):Int))):=by
    unfold k7a q7a;dsimp only;rw[zPa g1,zqa g1,zqa g2];simp only[cond_true,Option.bind_some,whb,sc _ (show p.length < 9223372036854775807 by omega)];unfold opnW;cases wBad x.1 x.2 <;> cases s <;> rfl
   rw[hb];cases hw:wBad x.1 x.2 with
   | true=>left;simp[hw]
   | false=>right;exact ⟨_,rfl,by simp only[List.any_cons,hw,Bool.false_or,Bool.or_assoc]⟩
  rw[hloop];simp only[Bool.false_or,kpb opnW hl];rw[decide_eq_true hl];cases (e.To.zip e.Mail.Envelope.To).any (fun p=>wBad p.1 p.2) <;> rfl
 rw[show ((e.To.length:Int) !=(e.Mail.Envelope.To.length:Int))=true by simp;omega,decide_eq_false hl];rfl
theorem Wsa(e:zba)(h:e.To.length<=1048576):wla e=some (if Koa e then 0 else 5):=by
 unfold wla Koa;by_cases hl:e.To.length=e.Mail.Envelope.To.length
 .rw[show ((e.To.length:Int) !=(e.Mail.Envelope.To.length:Int))=false by rw[hl];simp];simp only[cond_false];have hz:(e.To.zip e.Mail.Envelope.To).length=e.To.length:=by rw[List.length_zip];omega
  have hloop:iter (qQa e) (0,0)=some (if (e.To.zip e.Mail.Envelope.To).any (fun p=>wBad p.1 p.2) then .inr 5 else .inl (0+(((e.To.zip e.Mail.Envelope.To).countP fun p=>opnW p.1:Nat):Int))):=by
   refine Kia (e.To.zip e.Mail.Envelope.To) (fun n (s:Int)=>(s,(n:Int))) (fun n r s=>(if r.any (fun p=>wBad p.1 p.2) then .inr 5 else .inl (s+((r.countP fun p=>opnW p.1:Nat):Int)):Int ⊕ Int)) (fun n r s=>0<=s/\s<=(n:Int)) (fun s _=>?_) (fun p x r s hp hi=>?_) 0 rfl (by simp)
   .unfold qQa;dsimp only;rw[hz,hl,zAa];simp
   obtain ⟨g1,g2⟩:=wib hp;have hlt:=zBa g1;have hb:qQa e (s,(p.length:Int))=some (if wBad x.1 x.2 then .out (.inr 5) else .cont (if opnW x.1 then s+1 else s,((p.length+1:Nat):Int))):=by
    unfold qQa vua;dsimp only;rw[zPa g2,zqa g1,zqa g2];simp only[cond_true,Option.bind_some,whb,sc _ (show p.length < 9223372036854775807 by omega)];rw[qGa (by omega) (by omega)];unfold opnW;cases wBad x.1 x.2 <;> cases x.1.Result==0 <;> rfl
   rw[hb];cases hw:wBad x.1 x.2 with
   | true=>left;simp[hw]
   | false=>
    right;refine ⟨_,rfl,?_,?_⟩
    .simp only[List.any_cons,hw,Bool.false_or,List.countP_cons];split
     .rfl
     cases opnW x.1 <;> simp <;> omega
    cases opnW x.1 <;> simp <;> omega
  rw[hloop];rw[decide_eq_true hl];have hc:(((e.To.zip e.Mail.Envelope.To).countP fun p=>opnW p.1:Nat):Int)=0↔e.To.any opnW=false:=by
   rw[<-kpb (b:=e.Mail.Envelope.To) opnW hl,List.any_eq_false];rw[show (((e.To.zip e.Mail.Envelope.To).countP fun p=>opnW p.1:Nat):Int)=0↔((e.To.zip e.Mail.Envelope.To).countP fun p=>opnW p.1)=0 by omega,List.countP_eq_zero]
  cases hb:(e.To.zip e.Mail.Envelope.To).any (fun p=>wBad p.1 p.2) with
  | true=>rfl
  | false=>
   simp only[Bool.false_eq_true,if_false,Option.bind_some,Sum.elim_inl,Int.zero_add];cases ho:e.To.any opnW with
   | false=>rw[hc.2 ho];rfl
   | true=>
    have:((((e.To.zip e.Mail.Envelope.To).countP fun p=>opnW p.1:Nat):Int)==0)=false:=by
     rw[beq_eq_false_iff_ne];intro h0;rw[hc.1 h0]at ho;cases ho
    rw[this];rfl
 rw[show ((e.To.length:Int) !=(e.Mail.Envelope.To.length:Int))=true by simp;omega,decide_eq_false hl];rfl
def ypa(t:Int):Bool:=decide (-68719476736<=t) && decide (t<=68719476736)
theorem QEa(t:Int):wSa t=some (ypa t):=by unfold wSa;rw[vya];rfl
def rngQ(e:zba):Bool:=ypa e.Since && ypa e.Due && decide (0<=e.Tries) && decide (e.Tries<=1000000)
def queR(nx:Int):Nat->Int->List zba->Option zpa
 | _,_,[]=>none
 | i,last,e::r=>if (Zaa e.Mail).Code !=0 then some ⟨(Zaa e.Mail).Code,i⟩ else if decide (e.Id<=last) || decide (nx<=e.Id) then some ⟨19,i⟩ else if !rngQ e then some ⟨3,i⟩ else if !Koa e then some ⟨5,i⟩ else queR nx (i+1) e.Id r
theorem ZSa(nx:Int)(i:Nat)(last:Int)(e:zba)(r:List zba):queR nx i last (e::r)=if (Zaa e.Mail).Code !=0 then some ⟨(Zaa e.Mail).Code,i⟩ else if decide (e.Id<=last) || decide (nx<=e.Id) then some ⟨19,i⟩ else if !rngQ e then some ⟨3,i⟩ else if !Koa e then some ⟨5,i⟩ else queR nx (i+1) e.Id r:=rfl
def queF(q:zna):zpa:=if 20 < q.Entries.length then ⟨2, -1⟩ else if decide (q.Next < 0) || decide (1000000 < q.Next) then ⟨3, -2⟩ else (queR q.Next 0 (-1) q.Entries).getD ⟨0,0⟩
def vLa(q:zna):Prop:=q.Entries.length<=1048576/\∀e∈q.Entries,KWa e.Mail/\e.To.length<=1048576
theorem vKa(q:zna)(h:vLa q):kRa q=some (queF q):=by
 unfold kRa queF;by_cases h20:20 < q.Entries.length
 .rw[decide_eq_true (show (20:Int) < (q.Entries.length:Int) by omega),if_pos h20];rfl
 rw[decide_eq_false (show ¬(20:Int) < (q.Entries.length:Int) by omega),if_neg h20];simp only[cond_false,Option.bind_some];have e1:((bif decide (q.Next < 0) then some true else some (decide (1000000 < q.Next))):Option Bool)=some (decide (q.Next < 0) || decide (1000000 < q.Next)):=by cases decide (q.Next < 0) <;> rfl
 rw[e1];simp only[Option.bind_some];cases hn:decide (q.Next < 0) || decide (1000000 < q.Next) with
 | true=>rfl
 | false=>
  simp only[cond_false,Bool.false_eq_true,if_false];have hloop:iter (kUa q) (-1,0)=some ((queR q.Next 0 (-1) q.Entries).elim (.inl ()) .inr):=by
   refine ZNa q.Entries (fun n (s:Int)=>(s,(n:Int))) (fun n r s=>((queR q.Next n s r).elim (.inl ()) .inr:Unit ⊕ zpa)) (fun s=>?_) (fun p x r s hp=>?_) (-1) rfl
   .unfold kUa;dsimp only;rw[zAa];rfl
   have hx:q.Entries[p.length]? =some x:=by rw[hp];simp
   have hlt:=zBa hx;obtain ⟨⟨m1,m2⟩,m3⟩:=h.2 x (List.mem_of_getElem? hx);have hb:kUa q (s,(p.length:Int))=some (if (Zaa x.Mail).Code !=0 then .out (.inr ⟨(Zaa x.Mail).Code,p.length⟩) else if decide (x.Id<=s) || decide (q.Next<=x.Id) then .out (.inr ⟨19,p.length⟩) else if !rngQ x then .out (.inr ⟨3,p.length⟩) else if !Koa x then .out (.inr ⟨5,p.length⟩) else .cont (x.Id,((p.length+1:Nat):Int))):=by
    unfold kUa;dsimp only;rw[zPa hx,zqa hx];simp only[cond_true,Option.bind_some,jTa x.Mail m1 m2,kja,zWa,wIa,Zna x m3,sc _ (show p.length < 9223372036854775807 by omega)];have e2:decide (x.Tries < 0)= !decide (0<=x.Tries):=by rw[Bool.eq_iff_iff];simp
    have e3:decide ((1000000:Int) < x.Tries)= !decide (x.Tries<=1000000):=by rw[Bool.eq_iff_iff];simp
    rw[e2,e3];unfold rngQ ypa;cases (Zaa x.Mail).Code !=0 <;> cases decide (x.Id<=s) <;> cases decide (q.Next<=x.Id) <;> cases (decide (-68719476736<=x.Since) && decide (x.Since<=68719476736)) <;> cases (decide (-68719476736<=x.Due) && decide (x.Due<=68719476736)) <;> cases decide (0<=x.Tries) <;> cases decide (x.Tries<=1000000) <;> cases Koa x <;> rfl
   rw[hb,ZSa];split
   .exact .inl rfl
   split
   .exact .inl rfl
   split
   .exact .inl rfl
   split
   .exact .inl rfl
   exact .inr ⟨_,rfl,rfl⟩
  rw[hloop];cases queR q.Next 0 (-1) q.Entries <;> rfl
theorem yqa(q:zna)(h:vLa q):qga q=some (queF q):=by
 unfold qga queF;by_cases h20:20 < q.Entries.length
 .rw[decide_eq_true (show (20:Int) < (q.Entries.length:Int) by omega),if_pos h20];rfl
 rw[decide_eq_false (show ¬(20:Int) < (q.Entries.length:Int) by omega),if_neg h20];simp only[cond_false,vya,Option.bind_some,wVa];have e1:(!(decide (0<=q.Next) && decide (q.Next<=1000000)))=(decide (q.Next < 0) || decide (1000000 < q.Next)):=by
  rw[Bool.eq_iff_iff];simp
 rw[e1];cases hn:decide (q.Next < 0) || decide (1000000 < q.Next) with
 | true=>rfl
 | false=>
  simp only[cond_false,Bool.false_eq_true,if_false];have hnx:0<=q.Next/\q.Next<=1000000:=by simp at hn;omega
  have hloop:iter (k8a q) (-1,0)=some ((queR q.Next 0 (-1) q.Entries).elim (.inl ()) .inr):=by
   refine Kia q.Entries (fun n (s:Int)=>(s,(n:Int))) (fun n r s=>((queR q.Next n s r).elim (.inl ()) .inr:Unit ⊕ zpa)) (fun n r s=> -1<=s/\s<=1000000) (fun s _=>?_) (fun p x r s hp hi=>?_) (-1) rfl (by omega)
   .unfold k8a;dsimp only;rw[zAa];rfl
   have hx:q.Entries[p.length]? =some x:=by rw[hp];simp
   have hlt:=zBa hx;obtain ⟨⟨m1,m2⟩,m3⟩:=h.2 x (List.mem_of_getElem? hx);have hb:k8a q (s,(p.length:Int))=some (if (Zaa x.Mail).Code !=0 then .out (.inr ⟨(Zaa x.Mail).Code,p.length⟩) else if decide (x.Id<=s) || decide (q.Next<=x.Id) then .out (.inr ⟨19,p.length⟩) else if !rngQ x then .out (.inr ⟨3,p.length⟩) else if !Koa x then .out (.inr ⟨5,p.length⟩) else .cont (x.Id,((p.length+1:Nat):Int))):=by
    unfold k8a;dsimp only;rw[zPa hx,zqa hx];simp only[cond_true,Option.bind_some,WZa x.Mail m1 m2,wVa,vya,QEa,Wsa x m3,sc _ (show p.length < 9223372036854775807 by omega)];rw[qGa (n:=s+1) (by omega) (by omega),qGa (n:=q.Next - 1) (by omega) (by omega)];have e2:(!(decide (s+1<=x.Id) && decide (x.Id<=q.Next - 1)))=(decide (x.Id<=s) || decide (q.Next<=x.Id)):=by rw[Bool.eq_iff_iff];simp;omega
    rw[e2];unfold rngQ;cases (Zaa x.Mail).Code !=0 <;> cases decide (x.Id<=s) || decide (q.Next<=x.Id) <;> cases ypa x.Since <;> cases ypa x.Due <;> cases decide (0<=x.Tries) <;> cases decide (x.Tries<=1000000) <;> cases Koa x <;> rfl
   rw[hb,ZSa];split
   .exact .inl rfl
   split
   .exact .inl rfl
   split
   .exact .inl rfl
   split
   .exact .inl rfl
   rename_i h1 h2 h3 h4;refine .inr ⟨_,rfl,rfl,?_⟩;simp at h2;omega
  rw[hloop];cases queR q.Next 0 (-1) q.Entries <;> rfl
def kqb(l:List zba):Prop:=l.length<=1048576/\∀e∈l,KWa e.Mail/\e.To.length<=1048576
theorem qha(l:List zba)(h:l.length<=1048576):zFa l=some l:=QBa l (by omega)
theorem Zba(l:List zda)(h:l.length<=1048576):zya l=some l:=QBa l (by omega)
theorem QFa(L:List zba)(h:kqb L):iter (yea L) (0,0,L)=some (L,L.length):=by
 refine ZNa L (fun n (_:Unit)=>((n:Int),n,L)) (fun n r _=>(L,L.length)) (fun _=>?_) (fun p x r _ hp=>.inr ⟨(),?_,rfl⟩) () rfl
 .unfold yea;dsimp only;rw[zAa];rfl
 have hx:L[p.length]? =some x:=by rw[hp];simp
 have hlt:=zBa hx;have h0:=h.1;obtain ⟨h1,h2⟩:=h.2 x (List.mem_of_getElem? hx);unfold yea;dsimp only;rw[zPa hx,zqa hx];simp only[cond_true,Option.bind_some,jUa x.Mail h1,Zba x.To h2,V7a,kab,Int.toNat_natCast,Nat.le_refl,if_true,QCa hx,zqa hx,sc _ (show p.length < 9223372036854775807 by omega)]
theorem Vaa(q:zna)(h:kqb q.Entries):iter (y2a q) (0,0,([]:List zba))=some (q.Entries,q.Entries.length):=by
 have:∀r p,q.Entries=p++r->iter (y2a q) ((p.length:Int),p.length,p)=some (q.Entries,q.Entries.length):=by
  intro r;induction r with
  | nil=>
   intro p hp;obtain rfl:q.Entries=p:=by simpa using hp
   refine zEa ?_;unfold y2a;dsimp only;rw[zAa];rfl
  | cons x r ih=>
   intro p hp;have hx:q.Entries[p.length]? =some x:=by rw[hp];simp
   have hlt:=zBa hx;have h0:=h.1;obtain ⟨h1,h2⟩:=h.2 x (List.mem_of_getElem? hx);have hb:y2a q ((p.length:Int),p.length,p)=some (.cont (((p.length+1:Nat):Int),p.length+1,p++ [x])):=by
    unfold y2a;dsimp only;rw[zPa hx,zqa hx];simp only[cond_true,Option.bind_some];rw[vka (by simp;omega)];simp only[Option.bind_some,List.nil_append,nall,if_true];rw[vka (by simp;omega)];simp only[Option.bind_some,sc _ (show p.length < 9223372036854775807 by omega)]
   rw[zSa hb];have:=ih (p++ [x]) (by simp[hp]);simpa using this
 exact this q.Entries [] rfl
theorem krb(m:ksa)(h:m.Envelope.To.length<=1048576):iter (wka m) (0,([]:List zda))=some (m.Envelope.To.map fun r=>⟨r,0,false⟩):=by
 have:=(Qsa m.Envelope.To (fun i acc=>(i,acc)) (fun acc r=>acc++ [(⟨r,0,false⟩:zda)]) (fun acc=>acc) (fun i acc=>acc.length=i) (body:=wka m) (fun s hs=>by unfold wka;simp[zAa]) (fun i r acc hr hi=>by
  have hlt:=zBa hr;refine ⟨?_,by simp[hi]⟩;unfold wka;dsimp only;rw[zPa hr,zqa hr];simp only[cond_true,Option.bind_some,sc i (by omega)];rw[vka (by simp;omega)];rfl) ([]:List zda) rfl).1
 rw[this,k2b (fun r=>(⟨r,0,false⟩:zda))];rfl
def newE(q:zna)(m:ksa)(now:Int):zba:=⟨q.Next,m,now,0,now,m.Envelope.To.map fun r=>⟨r,0,false⟩⟩
def addP(q:zna)(m:ksa)(now:Int):zna × Int × zpa:=
 if (queF q).Code !=0 then (⟨[],0⟩,0,queF q) else if (Zaa m).Code !=0 then (⟨[],0⟩,0,⟨(Zaa m).Code, -6⟩) else if !ypa now then (⟨[],0⟩,0,⟨3, -7⟩) else
 if q.Entries.length=20∨q.Next=1000000 then (⟨[],0⟩,0,⟨2, -8⟩) else (⟨q.Entries++ [newE q m now],q.Next+1⟩,q.Next,⟨0,0⟩)
theorem Wta{nx:Int}:∀{l:List zba} {i:Nat} {last:Int},queR nx i last l=none->∀e∈l,(Zaa e.Mail).Code=0/\last < e.Id/\e.Id < nx/\rngQ e=true/\Koa e=true
 | [],_,_,_,e,he=>by cases he
 | x::l,i,last,h,e,he=>by
  rw[ZSa]at h;split at h
  .cases h
  rename_i h1;split at h
  .cases h
  rename_i h2;split at h
  .cases h
  rename_i h3;split at h
  .cases h
  rename_i h4;simp at h1 h2 h3 h4;rcases List.mem_cons.1 he with rfl | he
  .exact ⟨h1,by omega,by omega,h3,h4⟩
  obtain ⟨a,b,c⟩:=Wta h e he;exact ⟨a,by omega,c⟩
theorem k3b{nx:Int}:∀{l:List zba} {i:Nat} {last:Int},queR nx i last l=none->l.Pairwise (fun a b=>a.Id < b.Id)
 | [],_,_,_=>List.Pairwise.nil
 | x::l,i,last,h=>by
  rw[ZSa]at h;split at h
  .cases h
  split at h
  .cases h
  split at h
  .cases h
  split at h
  .cases h
  exact List.pairwise_cons.2 ⟨fun e he=>(Wta h e he).2.1,k3b h⟩
structure wjb (q:zna):Prop where
 n:q.Entries.length<=20
 nx:0<=q.Next/\q.Next<=1000000
 ent:∀e∈q.Entries,(Zaa e.Mail).Code=0/\0<=e.Id/\e.Id < q.Next/\rngQ e=true/\Koa e=true
 ids:q.Entries.Pairwise (fun a b=>a.Id < b.Id)
theorem Zca{q:zna}(h:(queF q).Code=0):wjb q/\queF q=⟨0,0⟩:=by
 unfold queF at h ⊢;by_cases h20:20 < q.Entries.length
 .rw[if_pos h20]at h;cases h
 rw[if_neg h20]at h ⊢;cases hn:decide (q.Next < 0) || decide (1000000 < q.Next) with
 | true=>rw[hn]at h;cases h
 | false=>
  rw[hn]at h;simp only[Bool.false_eq_true,if_false]at h ⊢;cases hr:queR q.Next 0 (-1) q.Entries with
  | none=>
   refine ⟨⟨by omega,by simp at hn;omega,fun e he=>?_,k3b hr⟩,rfl⟩;obtain ⟨a,b,c⟩:=Wta hr e he;exact ⟨a,by omega,c⟩
  | some f=>
   exfalso;rw[hr]at h;simp only[Option.getD_some]at h;have aux:∀(l:List zba) (i:Nat) (last:Int),queR q.Next i last l=some f->f.Code≠0:=by
    intro l;induction l with
    | nil=>intro i last hh;cases hh
    | cons x l ih=>
     intro i last hh;rw[ZSa]at hh;split at hh
     .rename_i h1;cases hh;simpa using h1
     split at hh
     .cases hh;show (19:Int)≠0;decide
     split at hh
     .cases hh;show (3:Int)≠0;decide
     split at hh
     .cases hh;show (5:Int)≠0;decide
     exact ih _ _ hh
   exact aux _ _ _ hr h
theorem zlb(q:zna)(m:ksa)(now:Int)(hq:vLa q)(hm:KWa m):ZLa q m now=some (addP q m now):=by
 unfold ZLa addP;rw[vKa q hq];simp only[Option.bind_some,kja,zWa,kwa,wIa];by_cases hc:(queF q).Code=0
 .obtain ⟨ok,hF⟩:=Zca hc;have h1:((queF q).Code !=0)=false:=by simp[hc]
  have hn:=ok.n;have hnx:=ok.nx;have hto:=hm.1.2.2.1;rw[h1,jTa m hm.1 hm.2];simp only[Option.bind_some,cond_false,Bool.false_eq_true,if_false];cases hmc:(Zaa m).Code !=0 with
  | true=>rfl
  | false=>
   simp only[cond_false,Bool.false_eq_true,if_false];show (bif !ypa now then _ else _)=_;cases ypa now with
   | false=>rfl
   | true=>
    simp only[Bool.not_true,cond_false,Bool.false_eq_true,if_false];have e1:((bif ((q.Entries.length:Int)==20) then some true else some ((q.Next==1000000))):Option Bool)=some (decide (q.Entries.length=20∨q.Next=1000000)):=by
     by_cases h20:q.Entries.length=20
     .rw[h20];simp
     rw[show ((q.Entries.length:Int)==20)=false by rw[beq_eq_false_iff_ne];omega];simp only[cond_false,Option.some.injEq];rw[Bool.eq_iff_iff];simp[h20]
    rw[e1];simp only[Option.bind_some];by_cases hl:q.Entries.length=20∨q.Next=1000000
    .rw[decide_eq_true hl,if_pos hl];rfl
    rw[decide_eq_false hl,if_neg hl];simp only[cond_false];rw[qha _ hq.1];simp only[Option.bind_some];rw[QFa _ hq];simp only[Option.bind_some];rw[jUa m hm,krb m hto];simp only[Option.bind_some,nall,if_true];rw[vka (by simp;omega),qGa (by omega) (by omega)];rfl
 have h1:((queF q).Code !=0)=true:=by simpa using hc
 rw[h1];rfl
theorem kVa(q:zna)(h:vLa q):vwa q q=some true:=by
 unfold vwa;simp only[bne_self_eq_false,cond_false,Option.bind_some];rw[zNa q.Entries (fun _ _=>(none:Option Bool)) (.inl ()) .inr]
 .rw[qva.2 (fun _ _ _=>rfl)];rfl
 .unfold wHa;rw[zAa];rfl
 intro i e he;have hi:=zBa he;have h0:=h.1;obtain ⟨⟨m1,m2⟩,m3⟩:=h.2 e (List.mem_of_getElem? he);have hl2:iter (vva e e) 0=some (.inl ()):=by
  rw[zNa e.To (fun _ _=>(none:Option Bool)) (.inl ()) .inr]
  .rw[qva.2 (fun _ _ _=>rfl)];rfl
  .unfold vva;rw[zAa];rfl
  intro k w hw;have hk:=zBa hw;unfold vva;rw[zPa hw,zqa hw];simp only[cond_true,Option.bind_some,beq_self_eq_true,sc k (by omega)];rfl
 unfold wHa;rw[zPa he,zqa he];simp only[cond_true,Option.bind_some,bne_self_eq_false,cond_false];rw[Wra e.Mail m1.2.2.1 m2.1.1];simp only[Option.bind_some,Bool.not_true,cond_false,hl2,Sum.elim_inl,sc i (by omega)];rfl
theorem Vba{a b:zba}:ltE a b=true↔a.Due < b.Due∨a.Due=b.Due/\a.Id < b.Id:=by unfold ltE;simp
theorem ksb{a b:zba}:ltE a b=false↔¬(a.Due < b.Due∨a.Due=b.Due/\a.Id < b.Id):=by rw[<-Vba];simp
theorem wkb{a b:zba}(h:ltE a b=true):ltE b a=false:=by rw[Vba]at h;rw[ksb];omega
theorem YGa{a b c:zba}(h1:ltE a b=false)(h2:ltE b c=false):ltE a c=false:=by rw[ksb]at *;omega
theorem Wua(x:zba):∀l:List zba,(insE x l).Perm (x::l)
 | []=>List.Perm.refl _
 | y::l=>by
  unfold insE;cases ltE y x with
  | true=>exact ((Wua x l).cons y).trans (List.Perm.swap x y l)
  | false=>exact List.Perm.refl _
theorem jVa:∀l:List zba,(jza l).Perm l
 | []=>List.Perm.refl _
 | x::l=>(Wua x (jza l)).trans ((jVa l).cons x)
theorem Wva(x:zba):∀l:List zba,l.Pairwise (fun a b=>ltE b a=false)->(insE x l).Pairwise (fun a b=>ltE b a=false)
 | [],_=>by simp[insE]
 | y::l,h=>by
  obtain ⟨h1,h2⟩:=List.pairwise_cons.1 h;unfold insE;cases hyx:ltE y x with
  | true=>
   refine List.pairwise_cons.2 ⟨fun z hz=>?_,Wva x l h2⟩;rcases List.mem_cons.1 ((Wua x l).mem_iff.1 hz) with rfl | hz
   .exact wkb hyx
   exact h1 z hz
  | false=>
   refine List.pairwise_cons.2 ⟨fun z hz=>?_,h⟩;rcases List.mem_cons.1 hz with rfl | hz
   .exact hyx
   exact YGa (h1 z hz) hyx
theorem Vqa:∀l:List zba,(jza l).Pairwise (fun a b=>ltE b a=false)
 | []=>List.Pairwise.nil
 | x::l=>Wva x _ (Vqa l)
theorem zmb:∀{l:List zba},WUa l=true->∀x∈l,∀y∈l,ltE x y=false->ltE y x=false->x=y
 | [],_,x,hx,_,_,_,_=>by cases hx
 | a::l,h,x,hx,y,hy,h1,h2=>by
  unfold WUa at h;rw[Bool.and_eq_true,List.all_eq_true]at h;rcases List.mem_cons.1 hx with rfl | hx' <;> rcases List.mem_cons.1 hy with rfl | hy'
  .rfl
  .have:=h.1 y hy';rw[h1,h2]at this;cases this
  .have:=h.1 x hx';rw[h1,h2]at this;cases this
  exact zmb h.2 x hx' y hy' h1 h2
theorem KEa:∀{a b:List zba},a.Perm b->a.Pairwise (fun a b=>ltE b a=false)->b.Pairwise (fun a b=>ltE b a=false)->(∀x∈a,∀y∈a,ltE x y=false->ltE y x=false->x=y)->a=b
 | [],b,h,_,_,_=>(List.nil_perm.1 h).symm
 | x::a,[],h,_,_,_=>by have:=h.length_eq;simp at this
 | x::a,y::b,h,ha,hb,ht=>by
  obtain ⟨a1,a2⟩:=List.pairwise_cons.1 ha;obtain ⟨b1,b2⟩:=List.pairwise_cons.1 hb;have hxy:x=y:=by
   rcases List.mem_cons.1 (h.mem_iff.1 (List.mem_cons_self (a:=x))) with e | hxb
   .exact e
   have hy:y∈x::a:=h.mem_iff.2 List.mem_cons_self;rcases List.mem_cons.1 hy with e | hya
   .exact e.symm
   exact ht x List.mem_cons_self y hy (b1 x hxb) (a1 y hya)
  subst hxy;rw[KEa (List.Perm.cons_inv h) a2 b2 fun u hu v hv=>ht u (List.mem_cons_of_mem _ hu) v (List.mem_cons_of_mem _ hv)]
theorem ktb{l l' :List zba}(hp:l'.Perm l)(hs:l'.Pairwise (fun a b=>ltE b a=false))(h:WUa l=true):l' =jza l:=
 KEa (hp.trans (jVa l).symm) hs (Vqa l) fun x hx y hy=>zmb h x (hp.mem_iff.1 hx) y (hp.mem_iff.1 hy)
theorem Kka{K V:Type}[BEq K][LawfulBEq K](m:List (K × V))(k:K)(v:V)(x:K):mget (mput m k v) x=if k==x then some v else mget m x:=by
 induction m with
 | nil=>rfl
 | cons p m ih=>
  obtain ⟨k',v'⟩:=p;unfold mput;by_cases h:k' =k
  .subst h;simp only[beq_self_eq_true,if_true,mget];cases k' ==x <;> simp
  have h1:(k' ==k)=false:=by simpa using h
  rw[h1];simp only[Bool.false_eq_true,if_false,mget];rw[ih];by_cases h2:k' =x
  .subst h2;have:(k==k')=false:=by simpa using fun h' =>h h'.symm
   simp[this]
  have:(k' ==x)=false:=by simpa using h2
  rw[this];simp
def wDom(w:zda):Str:=Wpa w.Recipient.Address
def jba(l:List zda):Prop:=l.length<=1048576/\∀w∈l,w.Recipient.Address.length<=1048576
def uwL(l:List zda)(d:Str):Bool:=l.any fun w=>w.Busy && wDom w==d
def uwP(e:zba)(d:Str):Bool:=uwL e.To d
def q9a(l:List zba)(d:Str):Nat:=l.countP fun e=>uwP e d
def v2a(d:Str):Nat->List zda->List Int
 | _,[]=>[]
 | n,w::r=>if opnW w && wDom w==d then (n:Int)::v2a d (n+1) r else v2a d (n+1) r
theorem Vra(d:Str)(r:List zda):∀(p:List zda) (n:Nat),v2a d n (p++r)=v2a d n p++v2a d (n+p.length) r
 | [],n=>by simp[v2a]
 | w::p,n=>by
  simp only[List.cons_append,v2a];rw[Vra d r p (n+1),show n+1+p.length=n+(w::p).length by simp;omega];split <;> simp
theorem znb(d:Str):∀(r:List zda) (n:Nat),(v2a d n r).length<=r.length
 | [],_=>Nat.le_refl _
 | w::r,n=>by
  have:=znb d r (n+1);unfold v2a;split <;> simp <;> omega
def ZTa(D:List Str):List zda->List Str
 | []=>[]
 | w::r=>if opnW w && !D.contains (wDom w) then wDom w::ZTa (D++ [wDom w]) r else ZTa D r
theorem wlb(r:List zda):∀D,(ZTa D r).length<=r.length:=by
 induction r with
 | nil=>intro D;exact Nat.le_refl _
 | cons w r ih=>
  intro D;unfold ZTa;split
  .have:=ih (D++ [wDom w]);simp;omega
  have:=ih D;simp;omega
theorem jca(s:Str)(h:s.length<=1048576):qTa s=some (Wpa s):=by
 unfold qTa;rw[jSa s (by omega)];simp only[Option.bind_some,qPb]
theorem Vsa(e:zba)(i:Nat)(w:zda)(h:jba e.To)(hw:e.To[i]? =some w):jRa e (i:Int)=some (wDom w):=by
 unfold jRa;rw[zqa hw];simp only[Option.bind_some];rw[Jua _ (h.2 w (List.mem_of_getElem? hw))];rfl
theorem KFa(e:zba)(d:Str)(h:jba e.To):wTa e d=some (uwP e d):=by
 unfold wTa;rw[zNa e.To (fun _ w=>if w.Busy && wDom w==d then some true else none) (.inl ()) .inr,yIa]
 .simp only[Option.bind_some];show _=some (e.To.any fun w=>w.Busy && wDom w==d);cases e.To.any fun w=>w.Busy && wDom w==d <;> rfl
 .unfold w0a;rw[zAa];rfl
 intro i w hw;have hi:=zBa hw;have h0:=h.1;unfold w0a;rw[zPa hw,zqa hw,Vsa e i w h hw];simp only[cond_true,Option.bind_some,sc i (by omega)];cases w.Busy <;> cases wDom w==d <;> rfl
theorem zob(l:List zba)(d:Str):q9a l d<=l.length:=List.countP_le_length
theorem W0a(q:zna)(d:Str)(hl:q.Entries.length<=1048576)(h:∀e∈q.Entries,jba e.To):y3a q d=some (q9a q.Entries d:Int):=by
 unfold y3a;have hloop:iter (v1a q d) (0,0)=some ((0:Int)+(q9a q.Entries d:Int)):=by
  refine Kia q.Entries (fun n (s:Int)=>(s,(n:Int))) (fun n r s=>s+(q9a r d:Int)) (fun n r s=>0<=s/\s<=(n:Int)) (fun s _=>?_) (fun p x r s hp hi=>.inr ?_) 0 rfl (by simp)
  .unfold v1a;dsimp only;rw[zAa];simp[q9a]
  have hx:q.Entries[p.length]? =some x:=by rw[hp];simp
  have hlt:=zBa hx;refine ⟨if uwP x d then s+1 else s,?_,?_,?_⟩
  .unfold v1a;dsimp only;rw[zPa hx,zqa hx];simp only[cond_true,Option.bind_some,KFa x d (h x (List.mem_of_getElem? hx)),sc _ (show p.length < 9223372036854775807 by omega)];rw[qGa (by omega) (by omega)];cases uwP x d <;> rfl
  .unfold q9a;rw[List.countP_cons];cases uwP x d <;> simp <;> omega
  split <;> omega
 rw[hloop];simp
theorem qSb(e:zba)(h:jba e.To)(u0:List ((Int × Str) × Bool))(m0:List (Str × Int))(hu:∀d,(mget u0 (e.Id,d)).getD false=false)(hm:∀d,0<=(mget m0 d).getD 0/\(mget m0 d).getD 0<=1048576):
 ∃u m,iter (qoa e) (0,u0,m0)=some (u,m)/\(∀id d,(mget u (id,d)).getD false=(id==e.Id && uwP e d || (mget u0 (id,d)).getD false))/\∀d,(mget m d).getD 0=(mget m0 d).getD 0+(if uwP e d then 1 else 0):=by
 have h0:=h.1;have key:∀r p u m,e.To=p++r->(∀id d,(mget u (id,d)).getD false=(id==e.Id && uwL p d || (mget u0 (id,d)).getD false))->(∀d,(mget m d).getD 0=(mget m0 d).getD 0+(if uwL p d then 1 else 0))->
  ∃u2 m2,iter (qoa e) ((p.length:Int),u,m)=some (u2,m2)/\(∀id d,(mget u2 (id,d)).getD false=(id==e.Id && uwP e d || (mget u0 (id,d)).getD false))/\∀d,(mget m2 d).getD 0=(mget m0 d).getD 0+(if uwP e d then 1 else 0):=by
  intro r;induction r with
  | nil=>
   intro p u m hp h1 h2;obtain rfl:e.To=p:=by simpa using hp
   refine ⟨u,m,zEa ?_,h1,h2⟩;unfold qoa;dsimp only;rw[zAa];rfl
  | cons w r ih=>
   intro p u m hp h1 h2;have hx:e.To[p.length]? =some w:=by rw[hp];simp
   have hlt:=zBa hx;have hun:∀d,uwL (p++ [w]) d=(uwL p d || (w.Busy && wDom w==d)):=fun d=>by unfold uwL;simp
   have hb:qoa e ((p.length:Int),u,m)=some (.cont (((p.length+1:Nat):Int),if w.Busy && !uwL p (wDom w) then mput u (e.Id,wDom w) true else u,if w.Busy && !uwL p (wDom w) then mput m (wDom w) ((mget m (wDom w)).getD 0+1) else m)):=by
    unfold qoa;dsimp only;rw[zPa hx,zqa hx];simp only[cond_true,Option.bind_some,jca _ (h.2 w (List.mem_of_getElem? hx)),sc _ (show p.length < 9223372036854775807 by omega)];have e1:(mget u (e.Id,Wpa w.Recipient.Address)).getD false=uwL p (wDom w):=by
     have:=h1 e.Id (wDom w);rw[hu]at this;have h3:(mget u (e.Id,wDom w)).getD false=uwL p (wDom w):=by simpa using this
     exact h3
    rw[e1];have e2:w64 ((mget m (Wpa w.Recipient.Address)).getD 0+1)=(mget m (wDom w)).getD 0+1:=by
     have:=h2 (wDom w);have:=hm (wDom w);refine qGa ?_ ?_
     .show _<=(mget m (wDom w)).getD 0+1;split at * <;> omega
     show (mget m (wDom w)).getD 0+1<=_;split at * <;> omega
    rw[e2];cases w.Busy <;> cases uwL p (wDom w) <;> rfl
   rw[zSa hb];have:=ih (p++ [w]) (if w.Busy && !uwL p (wDom w) then mput u (e.Id,wDom w) true else u) (if w.Busy && !uwL p (wDom w) then mput m (wDom w) ((mget m (wDom w)).getD 0+1) else m) (by simp[hp]) (fun id d=>by
    rw[hun];cases hc:w.Busy && !uwL p (wDom w) with
    | true=>
     simp only[Bool.and_eq_true,Bool.not_eq_true']at hc;rw[if_pos rfl,Kka];by_cases hk:(e.Id,wDom w)=(id,d)
     .cases hk;simp[hc.1]
     have hk' :((e.Id,wDom w)==(id,d))=false:=beq_eq_false_iff_ne.2 hk;rw[hk'];simp only[Bool.false_eq_true,if_false];rw[h1];by_cases hi:id=e.Id
     .subst hi;have hd:(wDom w==d)=false:=beq_eq_false_iff_ne.2 fun h=>hk (by rw[h])
      simp[hd]
     have:(id==e.Id)=false:=beq_eq_false_iff_ne.2 hi;simp[this]
    | false=>
     rw[if_neg (by decide),h1];cases hbz:w.Busy with
     | false=>simp
     | true=>
      rw[hbz]at hc;simp only[Bool.true_and,Bool.not_eq_eq_eq_not,Bool.not_false]at hc;by_cases hd:wDom w=d
      .subst hd;simp[hc]
      have:(wDom w==d)=false:=beq_eq_false_iff_ne.2 hd;simp[this]) (fun d=>by
    rw[hun];cases hc:w.Busy && !uwL p (wDom w) with
    | true=>
     simp only[Bool.and_eq_true,Bool.not_eq_true']at hc;rw[if_pos rfl,Kka];by_cases hk:wDom w=d
     .subst hk;simp only[beq_self_eq_true,if_true,Option.getD_some];rw[h2,hc.1,hc.2];simp
     have hk' :(wDom w==d)=false:=beq_eq_false_iff_ne.2 hk;rw[hk'];simp only[Bool.false_eq_true,if_false];rw[h2];simp
    | false=>
     rw[if_neg (by decide),h2];cases hbz:w.Busy with
     | false=>simp
     | true=>
      rw[hbz]at hc;simp only[Bool.true_and,Bool.not_eq_eq_eq_not,Bool.not_false]at hc;by_cases hd:wDom w=d
      .subst hd;simp[hc]
      have:(wDom w==d)=false:=beq_eq_false_iff_ne.2 hd;simp[this])
   simpa using this
 exact key e.To [] u0 m0 rfl (fun id d=>by simp[uwL]) (fun d=>by simp[uwL])
theorem wmb(q:zna)(hl:q.Entries.length<=20)(h:∀e∈q.Entries,jba e.To)(hid:q.Entries.Pairwise (fun a b=>a.Id < b.Id)):
 ∃u m,iter (qpa q) (0,([]:List ((Int × Str) × Bool)),([]:List (Str × Int)))=some (u,m)/\(∀id d,(mget u (id,d)).getD false=q.Entries.any fun e=>id==e.Id && uwP e d)/\∀d,(mget m d).getD 0=(q9a q.Entries d:Int):=by
 have key:∀r p u m,q.Entries=p++r->(∀id d,(mget u (id,d)).getD false=p.any fun e=>id==e.Id && uwP e d)->(∀d,(mget m d).getD 0=(q9a p d:Int))->
  ∃u2 m2,iter (qpa q) ((p.length:Int),u,m)=some (u2,m2)/\(∀id d,(mget u2 (id,d)).getD false=q.Entries.any fun e=>id==e.Id && uwP e d)/\∀d,(mget m2 d).getD 0=(q9a q.Entries d:Int):=by
  intro r;induction r with
  | nil=>
   intro p u m hp h1 h2;have hp' :q.Entries=p:=by simpa using hp
   refine ⟨u,m,zEa ?_,by rw[hp'];exact h1,by rw[hp'];exact h2⟩;unfold qpa;dsimp only;rw[<-hp',zAa];rfl
  | cons e r ih=>
   intro p u m hp h1 h2;have hx:q.Entries[p.length]? =some e:=by rw[hp];simp
   have hlt:=zBa hx;obtain ⟨u',m',hin,i1,i2⟩:=qSb e (h e (List.mem_of_getElem? hx)) u m (fun d=>by
    rw[h1,List.any_eq_false];intro x hxp hc;rw[hp,List.pairwise_append]at hid;have:=hid.2.2 x hxp e (by simp);simp at hc;omega) (fun d=>by
    rw[h2];have:=zob p d;have:p.length<=20:=by rw[hp]at hl;simp at hl;omega
    omega)
   have hb:qpa q ((p.length:Int),u,m)=some (.cont (((p.length+1:Nat):Int),u',m')):=by
    unfold qpa;dsimp only;rw[zPa hx,zqa hx];simp only[cond_true,Option.bind_some,hin,sc _ (show p.length < 9223372036854775807 by omega)]
   rw[zSa hb];have:=ih (p++ [e]) u' m' (by simp[hp]) (fun id d=>by
    rw[i1,h1,List.any_append];simp[Bool.or_comm]) (fun d=>by
    have e1:q9a (p++ [e]) d=q9a p d+(if uwP e d then 1 else 0):=by
     unfold q9a;rw[List.countP_append,List.countP_cons,List.countP_nil];simp
    rw[i2,h2,e1];split <;> simp)
   simpa using this
 exact key q.Entries [] [] [] rfl (fun id d=>by simp[mget]) (fun d=>by simp[mget,q9a])
section
section
variable {α:Type} (key:α->Int)
end
end
theorem qTb{α:Type}(L:List α)(n:Nat)(z:α)(h:n<=L.length):(clr0 L n z).take n=L.take n:=by
 unfold clr0;rw[List.take_append_of_le_length (by simp;omega),List.take_take,Nat.min_self]
theorem qUb{α:Type}(keep:α->Bool):∀(r:List α) (n:Nat) (j:Int),zZa (fun i x=>if !keep x then some ((i:Nat):Int) else none) n r=some j->∃m:Nat,j=((n+m:Nat):Int)/\∃x,r[m]? =some x/\keep x=false/\∀y∈r.take m,keep y=true:=by
 intro r;induction r with
 | nil=>intro n j hj;cases hj
 | cons y r ih=>
  intro n j hj;unfold zZa at hj;cases hy:keep y with
  | false=>rw[hy]at hj;simp at hj;exact ⟨0,by omega,y,rfl,hy,by simp⟩
  | true=>
   rw[hy]at hj;simp only[Bool.not_true,Bool.false_eq_true,if_false]at hj;obtain ⟨m,h1,x,h2,h3,h4⟩:=ih (n+1) j hj;refine ⟨m+1,by omega,x,by simpa using h2,h3,fun z hz=>?_⟩;rw[List.take_succ_cons]at hz;rcases List.mem_cons.1 hz with rfl | hz
   .exact hy
   exact h4 z hz
theorem del_eq{α:Type}(keep:α->Bool)(L:List α)(z:α)(hl:L.length<=1048576){b1:Int->Option (Step Int (Unit ⊕ Int))}{b2:Int × Int × List α->Option (Step (Int × Int × List α) (Int × List α))}
 (h10:b1 (L.length:Int)=some (.out (.inl ()))) (h11:∀(i:Nat) x,L[i]? =some x->b1 (i:Int)=some (bif keep x then .cont ((i+1:Nat):Int) else .out (.inr (i:Int))))
 (h20:∀i M,M.length=L.length->b2 (i,(L.length:Int),M)=some (.out (i,M)))
 (h21:∀(i k:Nat) (M:List α) x,M.length=L.length->M[k]? =some x->i < k->b2 ((i:Int),(k:Int),M)=some (.cont (bif keep x then (((i+1:Nat):Int),((k+1:Nat):Int),M.set i x) else ((i:Int),((k+1:Nat):Int),M)))):
 (((iter b1 0).bind (Sum.elim (fun b8=>some ((-1))) (fun b9=>some b9)):Option Int).bind fun (j6:Int)=>(bif (j6==(-1)) then some L else (iter b2 ((j6,(w64 (j6+1)),L))).bind fun b20=>(cut b20.2 b20.1 (b20.2.length:Int)).bind fun v33=>(cut ((clr0 b20.2 (Int.toNat b20.1) z)) 0 b20.1).bind fun v35=>some v35))=some (L.filter keep):=by
 have hl1:iter b1 0=some ((zZa (fun i x=>if !keep x then some ((i:Nat):Int) else none) 0 L).elim (.inl ()) .inr):=by
  refine zNa L _ (Sum.inl ()) Sum.inr h10 ?_;intro i r hr;rw[h11 i r hr];cases keep r <;> rfl
 rw[hl1];simp only[Option.bind_some,Qua];cases hf:zZa (fun i x=>if !keep x then some ((i:Nat):Int) else none) 0 L with
 | none=>
  rw[qva]at hf;have hall:L.filter keep=L:=by
   rw[List.filter_eq_self];intro x hx;obtain ⟨i,hi⟩:=List.mem_iff_getElem?.1 hx;have:=hf i x hi;cases hq:keep x with
   | true=>rfl
   | false=>rw[hq]at this;simp at this
  rw[hall];rfl
 | some j=>
  obtain ⟨j,rfl,x,hx,hxq,hbefore⟩:∃n:Nat,j=(n:Int)/\∃x,L[n]? =some x/\keep x=false/\∀y∈L.take n,keep y=true:=by
   obtain ⟨m,h1,h2⟩:=qUb keep L 0 j hf;exact ⟨m,by omega,h2⟩
  have hjl:=zBa hx;have hne:(((j:Nat):Int)== -1)=false:=by rw[beq_eq_false_iff_ne];omega
  simp only[Option.getD_some,hne,cond_false,sc j (by omega)];have hdl:∀(r:List α) (i k:Nat) (M:List α),M.length=L.length->M.drop k=r->i < k->k<=M.length->∃L',iter b2 ((i:Int),(k:Int),M)=some (((i+(r.filter keep).length:Nat):Int),L')/\L'.length=L.length/\L'.take (i+(r.filter keep).length)=M.take i++r.filter keep:=by
   intro r;induction r with
   | nil=>
    intro i k M hM hd hik hk;have hkl:k=M.length:=by
     have:=congrArg List.length hd;simp at this;omega
    refine ⟨M,?_,hM,by simp⟩;rw[hkl,hM];simpa using zEa (h20 i M hM)
   | cons y r ih=>
    intro i k M hM hd hik hk;have hlt:k < M.length:=by
     have:=congrArg List.length hd;simp at this;omega
    have hy:M[k]? =some y:=by
     have:=List.getElem?_drop (xs:=M) (i:=k) (j:=0);rw[hd]at this;simpa using this.symm
    have hd' :M.drop (k+1)=r:=by
     have:=congrArg (List.drop 1) hd;simpa[List.drop_drop,Nat.add_comm]using this
    have hs:=h21 i k M y hM hy hik;cases hq:keep y with
    | false=>
     rw[hq,cond_false]at hs;obtain ⟨L',q1,q2,q3⟩:=ih i (k+1) M hM hd' (by omega) (by omega);refine ⟨L',(zSa hs).trans ?_,q2,?_⟩
     .simpa[hq]using q1
     simpa[hq]using q3
    | true=>
     rw[hq,cond_true]at hs;have hdr:(M.set i y).drop (k+1)=r:=by
      rw[List.drop_set_of_lt (by omega)];exact hd'
     obtain ⟨L',q1,q2,q3⟩:=ih (i+1) (k+1) (M.set i y) (by simpa using hM) hdr (by omega) (by simp;omega);have hfl:((y::r).filter keep)=y::r.filter keep:=by simp[hq]
     refine ⟨L',(zSa hs).trans ?_,q2,?_⟩
     .rw[hfl,q1];simp only[List.length_cons];congr 2;omega
     rw[hfl];have e:i+(y::r.filter keep).length=i+1+(r.filter keep).length:=by simp;omega
     rw[e,q3];have:(M.set i y).take (i+1)=M.take i++ [y]:=by
      rw[List.take_add_one];have h5:(M.set i y)[i]? =some y:=List.getElem?_set_self (by omega);rw[h5,List.take_set_of_le (Nat.le_refl _)];rfl
     rw[this];simp
  obtain ⟨L',q1,q2,q3⟩:=hdl (L.drop (j+1)) j (j+1) L rfl rfl (by omega) (by omega);rw[q1];simp only[Option.bind_some];have hfil:L.filter keep=L.take j++(L.drop (j+1)).filter keep:=by
   conv=>lhs;rw[<-List.take_append_drop j L,List.filter_append]
   have h5:(L.take j).filter keep=L.take j:=List.filter_eq_self.2 hbefore;have h6:L.drop j=x::L.drop (j+1):=by
    rw[List.drop_eq_getElem_cons hjl]
    congr 1
    rw[List.getElem?_eq_getElem hjl]at hx;exact Option.some.inj hx
   rw[h5,h6,List.filter_cons,hxq];simp
  have hlen:j+((L.drop (j+1)).filter keep).length<=L'.length:=by
   rw[q2];have:=List.length_filter_le keep (L.drop (j+1));simp at this;omega
  rw[Vma hlen];simp only[Option.bind_some,Int.toNat_natCast];rw[Wja (by unfold clr0;simp;omega),qTb _ _ _ hlen,q3,hfil];rfl
def VAa(q:zna)(e:zba)(out:List zka)(d:Str):List zka:=if !uwP e d && decide (q9a q.Entries d+out.countP (fun a=>a.Domain==d) < 2) then out++ [⟨e.Id,d,v2a d 0 e.To⟩] else out
def attE(q:zna)(out:List zka)(e:zba):List zka:=(ZTa [] e.To).foldl (VAa q e) out
def dueP(q:zna)(now:Int):List zba:=q.Entries.filter fun e=> !decide (now < e.Due)
def readyP(q:zna)(now:Int):List zka:=(jza (dueP q now)).foldl (attE q) []
def wnb(q:zna)(now:Int):List zka × zpa:=if (queF q).Code !=0 then ([],queF q) else if !ypa now then ([],⟨3, -7⟩) else (readyP q now,⟨0,0⟩)
theorem zpb(q:zna)(e:zba)(out:List zka)(d:Str):(VAa q e out d).length<=out.length+1:=by unfold VAa;split <;> simp
theorem KGa(q:zna)(e:zba):∀(D:List Str) (out:List zka),(D.foldl (VAa q e) out).length<=out.length+D.length
 | [],out=>by simp
 | d::D,out=>by
  have:=KGa q e D (VAa q e out d);have:=zpb q e out d;simp only[List.foldl_cons,List.length_cons];omega
theorem zqb:∀{l:List zba},l.Pairwise (fun a b=>a.Id < b.Id)->WUa l=true
 | [],_=>rfl
 | x::l,h=>by
  obtain ⟨h1,h2⟩:=List.pairwise_cons.1 h;unfold WUa;rw[Bool.and_eq_true,List.all_eq_true];refine ⟨fun y hy=>?_,zqb h2⟩;have:=h1 y hy;rw[Bool.or_eq_true,Vba,Vba];omega
def dk(e:zba):Int:=e.Due
theorem k4b:∀{l:List zba},l.Pairwise (fun a b=>a.Id < b.Id)->∀x∈l,∀y∈l,x.Id=y.Id->x=y
 | [],_,x,hx,_,_,_=>by cases hx
 | a::l,h,x,hx,y,hy,he=>by
  obtain ⟨h1,h2⟩:=List.pairwise_cons.1 h;rcases List.mem_cons.1 hx with rfl | hx' <;> rcases List.mem_cons.1 hy with rfl | hy'
  .rfl
  .have:=h1 y hy';omega
  .have:=h1 x hx';omega
  exact k4b h2 x hx' y hy' he
theorem zrb{K V:Type}[BEq K]:∀(m:List (K × V)) (k:K),(mpos m k).isNone=(mget m k).isNone
 | [],_=>rfl
 | (k',v)::m,k=>by
  unfold mpos mget;split
  .rfl
  rw[Option.isNone_map,zrb m k]
theorem Vca(d:Str)(p:List zda)(w:zda):v2a d 0 (p++ [w])=v2a d 0 p++(if opnW w && wDom w==d then [(p.length:Int)] else []):=by
 rw[Vra,Nat.zero_add];simp only[v2a]
theorem doms_eq(e:zba)(h:jba e.To):∃M,iter (qqa e) (0,([]:List (Str × List Int)),([]:List Str))=some (M,ZTa [] e.To)/\∀d,mget M d=if v2a d 0 e.To=[] then none else some (v2a d 0 e.To):=by
 have h0:=h.1;have key:∀r p M D,e.To=p++r->(∀d,mget M d=if v2a d 0 p=[] then none else some (v2a d 0 p))->(∀d,D.contains d= !(v2a d 0 p).isEmpty)->D.length<=p.length->D++ZTa D r=ZTa [] e.To->
  ∃M2,iter (qqa e) ((p.length:Int),M,D)=some (M2,ZTa [] e.To)/\∀d,mget M2 d=if v2a d 0 e.To=[] then none else some (v2a d 0 e.To):=by
  intro r;induction r with
  | nil=>
   intro p M D hp h1 h2 h3 h4;have hp' :e.To=p:=by simpa using hp
   have hD:D=ZTa [] e.To:=by simpa[ZTa]using h4
   refine ⟨M,zEa ?_,by rw[hp'];exact h1⟩;unfold qqa;dsimp only;rw[<-hp',zAa,hD];rfl
  | cons w r ih=>
   intro p M D hp h1 h2 h3 h4;have hx:e.To[p.length]? =some w:=by rw[hp];simp
   have hlt:=zBa hx;have hop:(v2a (wDom w) 0 p).length<=p.length:=znb _ _ _;have hnone:(mpos M (wDom w)).isNone= !D.contains (wDom w):=by
    rw[zrb,h1,h2];cases hz:v2a (wDom w) 0 p <;> simp
   have hget:(mget M (wDom w)).getD []=v2a (wDom w) 0 p:=by
    rw[h1];split
    .rename_i hz;rw[hz];rfl
    rfl
   have hb:qqa e ((p.length:Int),M,D)=some (.cont (((p.length+1:Nat):Int),if opnW w then mput M (wDom w) (v2a (wDom w) 0 p++ [(p.length:Int)]) else M,if opnW w && !D.contains (wDom w) then D++ [wDom w] else D)):=by
    unfold qqa;dsimp only;rw[zPa hx,zqa hx];simp only[cond_true,Option.bind_some,sc _ (show p.length < 9223372036854775807 by omega)];cases ho:opnW w with
    | false=>
     have:(w.Result !=0)=true:=by unfold opnW at ho;rw[bne,ho];rfl
     rw[this];rfl
    | true=>
     have:(w.Result !=0)=false:=by unfold opnW at ho;rw[bne,ho];rfl
     rw[this];simp only[cond_false,Option.bind_some,jca _ (h.2 w (List.mem_of_getElem? hx))];rw[show mpos M (Wpa w.Recipient.Address)=mpos M (wDom w) from rfl,show mget M (Wpa w.Recipient.Address)=mget M (wDom w) from rfl,hnone,hget];rw[vka (l:=v2a (wDom w) 0 p) (by simp;omega)];have hnn:Yka (v2a (wDom w) 0 p++ [(p.length:Int)])=some true:=by unfold Yka;simp
     cases hc:D.contains (wDom w) with
     | true=>simp only[Bool.not_true,cond_false,Option.bind_some,hnn];rfl
     | false=>
      rw[vka (by simp;omega)];simp only[Bool.not_false,cond_true,Option.bind_some,hnn];rfl
   rw[zSa hb];have hsn:=Vca;have:=ih (p++ [w]) (if opnW w then mput M (wDom w) (v2a (wDom w) 0 p++ [(p.length:Int)]) else M) (if opnW w && !D.contains (wDom w) then D++ [wDom w] else D) (by simp[hp]) (fun d=>by
    rw[Vca];cases ho:opnW w with
    | false=>simp[h1]
    | true=>
     rw[if_pos rfl,Kka];by_cases hd:wDom w=d
     .subst hd;simp
     have:(wDom w==d)=false:=beq_eq_false_iff_ne.2 hd;simp[this,h1]) (fun d=>by
    rw[Vca];cases ho:opnW w with
    | false=>simp only[Bool.false_and,Bool.false_eq_true,if_false,List.append_nil];exact h2 d
    | true=>
     simp only[Bool.true_and];by_cases hd:wDom w=d
     .subst hd;simp only[beq_self_eq_true,if_true];cases hc:D.contains (wDom w) with
      | true=>simp only[Bool.not_true,Bool.false_eq_true,if_false];rw[hc];simp
      | false=>simp only[Bool.not_false,if_true];simp
     have hd' :(wDom w==d)=false:=beq_eq_false_iff_ne.2 hd;rw[hd'];simp only[Bool.false_eq_true,if_false,List.append_nil];rw[<-h2 d];cases hc:D.contains (wDom w) with
     | true=>simp only[Bool.not_true,Bool.false_eq_true,if_false]
     | false=>simp only[Bool.not_false,if_true];simp[Ne.symm hd]) (by
    split
    .simp;omega
    .simp;omega) (by
    rw[<-h4]
    conv=>rhs;unfold ZTa
    split
    .simp
    rfl)
   simpa using this
 exact key e.To [] [] [] rfl (fun d=>by simp[v2a,mget]) (fun d=>by simp[v2a]) (Nat.le_refl _) rfl
theorem step_eq(q:zna)(e:zba)(u:List ((Int × Str) × Bool))(m0:List (Str × Int))(M:List (Str × List Int))(hu:∀d,(mget u (e.Id,d)).getD false=uwP e d)(hM:∀d,mget M d=if v2a d 0 e.To=[] then none else some (v2a d 0 e.To))(hn:q.Entries.length<=20):
 ∀(r p:List Str) (D:List Str) (out:List zka) (m:List (Str × Int)),D=p++r->(∀d,(mget m d).getD 0=(q9a q.Entries d+out.countP (fun a=>a.Domain==d):Nat))->out.length+r.length<=33554432->D.length<=1048576->
  ∃m2,iter (qra (u,m0) e (M,D)) ((p.length:Int),out,m)=some (r.foldl (VAa q e) out,m2)/\∀d,(mget m2 d).getD 0=(q9a q.Entries d+(r.foldl (VAa q e) out).countP (fun a=>a.Domain==d):Nat):=by
 intro r;induction r with
 | nil=>
  intro p D out m hp h1 h2 h3;have hp' :D=p:=by simpa using hp
  refine ⟨m,zEa ?_,h1⟩;unfold qra;dsimp only;rw[<-hp',zAa];rfl
 | cons d r ih=>
  intro p D out m hp h1 h2 h3;have hx:D[p.length]? =some d:=by rw[hp];simp
  have hlt:=zBa hx;simp only[List.length_cons]at h2;have hbn:=zob q.Entries d;have hcn:out.countP (fun a=>a.Domain==d)<=out.length:=List.countP_le_length;have hMd:(mget M d).getD []=v2a d 0 e.To:=by
   rw[hM];split
   .rename_i hz;rw[hz];rfl
   rfl
  have hdec:decide ((((q9a q.Entries d+out.countP (fun a=>a.Domain==d):Nat):Int)) < 2)=decide (q9a q.Entries d+out.countP (fun a=>a.Domain==d) < 2):=by congr 1;apply propext;omega
  have hb:qra (u,m0) e (M,D) ((p.length:Int),out,m)=some (.cont (((p.length+1:Nat):Int),VAa q e out d,if !uwP e d && decide (q9a q.Entries d+out.countP (fun a=>a.Domain==d) < 2) then mput m d (((q9a q.Entries d+out.countP (fun a=>a.Domain==d):Nat):Int)+1) else m)):=by
   unfold qra VAa;dsimp only;rw[zPa hx,zqa hx];simp only[cond_true,Option.bind_some,hu,h1,hMd,hdec,sc _ (show p.length < 9223372036854775807 by omega)];rw[vka (by simp;omega),qGa (by omega) (by omega)];cases uwP e d <;> cases decide (q9a q.Entries d+out.countP (fun a=>a.Domain==d) < 2) <;> rfl
  rw[zSa hb];have hsl:=zpb q e out d;have:=ih (p++ [d]) D (VAa q e out d) (if !uwP e d && decide (q9a q.Entries d+out.countP (fun a=>a.Domain==d) < 2) then mput m d (((q9a q.Entries d+out.countP (fun a=>a.Domain==d):Nat):Int)+1) else m) (by simp[hp]) (fun d' =>by
   unfold VAa;cases hc: !uwP e d && decide (q9a q.Entries d+out.countP (fun a=>a.Domain==d) < 2) with
   | false=>simp only[Bool.false_eq_true,if_false];exact h1 d'
   | true=>
    rw[if_pos rfl,if_pos rfl,Kka,List.countP_append,List.countP_cons,List.countP_nil];by_cases hd:d=d'
    .subst hd;simp;omega
    have:(d==d')=false:=beq_eq_false_iff_ne.2 hd;rw[this];simp only[Bool.false_eq_true,if_false,h1];simp) (by omega) h3
  simpa using this
theorem qVb(q:zna)(u:List ((Int × Str) × Bool))(m0:List (Str × Int))(S:List zba)(hS:∀e∈S,jba e.To/\∀d,(mget u (e.Id,d)).getD false=uwP e d)(hn:q.Entries.length<=20)(hl:S.length<=20):
 ∀(r p:List zba) (out:List zka) (m:List (Str × Int)),S=p++r->(∀d,(mget m d).getD 0=(q9a q.Entries d+out.countP (fun a=>a.Domain==d):Nat))->out.length<=p.length * 1048576->
  iter (qsa S (u,m0)) ((p.length:Int),out,m)=some (r.foldl (attE q) out):=by
 intro r;induction r with
 | nil=>
  intro p out m hp h1 h2;have hp' :S=p:=by simpa using hp
  refine zEa ?_;unfold qsa;dsimp only;rw[<-hp',zAa];rfl
 | cons e r ih=>
  intro p out m hp h1 h2;have hx:S[p.length]? =some e:=by rw[hp];simp
  have hlt:=zBa hx;obtain ⟨s1,s2⟩:=hS e (List.mem_of_getElem? hx);obtain ⟨M,hM,hMd⟩:=doms_eq e s1;have hdl:=wlb e.To [];have hto:=s1.1;have hb2:p.length * 1048576<=20 * 1048576:=Nat.mul_le_mul_right _ (by omega);obtain ⟨m2,hm2,hm3⟩:=step_eq q e u m0 M s2 hMd hn (ZTa [] e.To) [] (ZTa [] e.To) out m rfl h1 (by omega) (by omega);have hb:qsa S (u,m0) ((p.length:Int),out,m)=some (.cont (((p.length+1:Nat):Int),attE q out e,m2)):=by
   unfold qsa;dsimp only;rw[zPa hx,zqa hx];simp only[cond_true,Option.bind_some,hM];rw[show iter (qra (u,m0) e (M,ZTa [] e.To)) (0,out,m)=some ((ZTa [] e.To).foldl (VAa q e) out,m2) from hm2];simp only[Option.bind_some,sc _ (show p.length < 9223372036854775807 by omega)];rfl
  rw[zSa hb];have hfl:=KGa q e (ZTa [] e.To) out;have:=ih (p++ [e]) (attE q out e) m2 (by simp[hp]) hm3 (by unfold attE;simp only[List.length_append,List.length_singleton];omega);simpa using this
def ZUa(q:zna):Prop:=∀e∈q.Entries,jba e.To
theorem W1a(q:zna)(now:Int)(hq:vLa q)(hw:ZUa q):y1a q now=some (wnb q now):=by
 unfold y1a wnb;rw[vKa q hq];simp only[Option.bind_some,kja,zWa,kwa,wIa];by_cases hc:(queF q).Code=0
 .obtain ⟨ok,hF⟩:=Zca hc;have h1:((queF q).Code !=0)=false:=by simp[hc]
  have hn:=ok.n;rw[h1];simp only[cond_false,Bool.false_eq_true,if_false];show (bif !ypa now then _ else _)=_;cases ypa now with
  | false=>rfl
  | true=>
   simp only[Bool.not_true,cond_false,Bool.false_eq_true,if_false];rw[vka (by simp;omega)];simp only[List.nil_append,Option.bind_some];rw[JOa _ _ _ (fun he=>by rw[List.isEmpty_iff.1 he])];simp only[Option.bind_some];have hdel:=del_eq (fun e:zba=> !decide (now < e.Due)) q.Entries (zba.mk 0 ((ksa.mk ((zCa.mk (([]:Str)) ([]) (([]:Str)))) ((zua.mk ([]) ([]))))) 0 0 0 ([])) (by omega) (b1:=vZa now q.Entries) (b2:=v0a now) (by unfold vZa;rw[zAa];rfl) (fun i x hx=>by
    have hi:=zBa hx;unfold vZa;rw[zPa hx,zqa hx];simp only[cond_true,Option.bind_some,sc i (by omega)];cases decide (now < x.Due) <;> rfl) (fun i M hM=>by
    unfold v0a;dsimp only;rw[<-hM,zAa];rfl) (fun i k M x hM hx hik=>by
    have hi:=zBa hx;have hii:M[i]? =some (M[i]'(by omega)):=List.getElem?_eq_getElem (by omega);unfold v0a;dsimp only;rw[zPa hx,zqa hx,zqa hii];simp only[cond_true,Option.bind_some,sc i (by omega),sc k (by omega)];cases decide (now < x.Due) <;> simp)
   rw[hdel];simp only[Option.bind_some];have hids:(dueP q now).Pairwise (fun a b=>a.Id < b.Id):=ok.ids.filter _;have hdl:(dueP q now).length<=q.Entries.length:=List.length_filter_le _ _;have hsort:zGa (dueP q now)=some (jza (dueP q now)):=by
    unfold zGa;rw[zqb hids,decide_eq_true (show (dueP q now).length<=1048576 by omega)];rfl
   show ((zGa (dueP q now)).bind _)=_;rw[hsort];simp only[Option.bind_some];obtain ⟨u,m,hbz,hu,hm⟩:=wmb q hn hw ok.ids;rw[hbz];simp only[Option.bind_some];have hSl:(jza (dueP q now)).length=(dueP q now).length:=(jVa _).length_eq;have hloop:=qVb q u m (jza (dueP q now)) (fun e he=>by
    have he2:e∈q.Entries:=(List.mem_filter.1 ((jVa _).mem_iff.1 he)).1;refine ⟨hw e he2,fun d=>?_⟩;rw[hu,Bool.eq_iff_iff,List.any_eq_true];constructor
    .rintro ⟨x,hx,hxe⟩;simp at hxe;have:x=e:=k4b ok.ids x hx e he2 hxe.1.symm;rw[<-this];exact hxe.2
    intro h;exact ⟨e,he2,by simp[h]⟩) hn (by omega) (jza (dueP q now)) [] [] m rfl (fun d=>by rw[hm];simp) (by simp)
   rw[show iter (qsa (jza (dueP q now)) (u,m)) (0,([]:List zka),m)=some ((jza (dueP q now)).foldl (attE q) []) from hloop];rfl
 have h1:((queF q).Code !=0)=true:=by simpa using hc
 rw[h1];rfl
def posI(l:List zba)(id:Int):Int:=(zZa (fun i x=>if x.Id==id then some ((i:Nat):Int) else none) 0 l).getD (-1)
theorem Wwa(l:List zba)(id:Int):(posI l id= -1/\∀x∈l,x.Id≠id)∨∃(n:Nat) (x:zba),posI l id=(n:Int)/\l[n]? =some x/\x.Id=id:=by
 unfold posI;cases hf:zZa (fun i x=>if x.Id==id then some ((i:Nat):Int) else none) 0 l with
 | none=>
  left;refine ⟨rfl,fun x hx he=>?_⟩;rw[qva]at hf;obtain ⟨i,hi⟩:=List.mem_iff_getElem?.1 hx;have:=hf i x hi;simp[he]at this
 | some z=>
  right;obtain ⟨i,x,h1,h2⟩:=j8a hf;by_cases he:x.Id=id
  .simp[he]at h2;exact ⟨i,x,by simp[<-h2],h1,he⟩
  simp[he]at h2
def toR(e:zba)(dom:Str)(on:Bool):Nat->Int->List Int->Option zpa
 | _,_,[]=>none
 | i,last,k::r=>if decide (k<=last) || decide ((e.To.length:Int)<=k) then some ⟨3,i⟩ else match e.To[k.toNat]? with
  | none=>none
  | some w=>if wDom w !=dom then some ⟨5,i⟩ else if w.Result !=0 || w.Busy !=on then some ⟨8,i⟩ else toR e dom on (i+1) k r
def attP(q:zna)(a:zka)(on:Bool):Int × zpa:=
 if posI q.Entries a.Entry= -1 then (0,⟨6, -3⟩) else match q.Entries[(posI q.Entries a.Entry).toNat]? with
  | none=>(0,⟨6, -3⟩)
  | some e=>if a.To.length=0∨e.To.length < a.To.length then (0,⟨2, -4⟩) else match toR e a.Domain on 0 (-1) a.To with
   | some f=>(0,f)
   | none=>(posI q.Entries a.Entry,⟨0,0⟩)
theorem att_loop(e:zba)(a:zka)(on:Bool)(he:jba e.To)(hl:a.To.length<=1048576):∀(r p:List Int) (last:Int),a.To=p++r->(p=[]/\last= -1∨0<=last/\∃p',p=p' ++ [last])->
 iter (kxa a on e) (p.length:Int)=some (match toR e a.Domain on p.length last r with | some f=>.inr (0,f) | none=>.inl ()):=by
 intro r;have h0:=he.1;induction r with
 | nil=>
  intro p last hp hc;have hp' :a.To=p:=by simpa using hp
  refine zEa ?_;unfold kxa;rw[<-hp',zAa];rfl
 | cons k r ih=>
  intro p last hp hc;have hx:a.To[p.length]? =some k:=by rw[hp];simp
  have hlt:=zBa hx;have hcond:((bif decide (k < 0) then some true else (bif decide ((e.To.length:Int)<=k) then some true else (bif decide (0 < (p.length:Int)) then (idx a.To ((w64 ((p.length:Int) - 1)))).bind fun v38=>some (decide (k<=v38)) else some false))):Option Bool)=some (decide (k<=last) || decide ((e.To.length:Int)<=k)):=by
   rcases hc with ⟨rfl,rfl⟩ | ⟨hl0,p',rfl⟩
   .have:decide (k < 0)=decide (k<= -1):=by congr 1;apply propext;omega
    rw[this];simp only[List.length_nil];cases decide (k<= -1) <;> cases decide ((e.To.length:Int)<=k) <;> rfl
   have h1:decide (0 < (((p' ++ [last]).length:Nat):Int))=true:=decide_eq_true (by rw[List.length_append,List.length_singleton];omega);have h2:idx a.To ((w64 (((p' ++ [last]).length:Int) - 1)))=some last:=by
    rw[show (((p' ++ [last]).length:Int) - 1)=(p'.length:Int) by simp,Jga _ (by simp at hlt;omega)];rw[Wia,hp];simp
   rw[h1,h2];simp only[cond_true,Option.bind_some];by_cases hk:k < 0
   .rw[decide_eq_true hk,decide_eq_true (show k<=last by omega)];rfl
   rw[decide_eq_false hk];cases decide ((e.To.length:Int)<=k) <;> cases decide (k<=last) <;> rfl
  unfold toR;cases hq:decide (k<=last) || decide ((e.To.length:Int)<=k) with
  | true=>
   rw[if_pos rfl];refine zEa ?_;unfold kxa;rw[zPa hx,zqa hx];simp only[cond_true,Option.bind_some];rw[hcond,hq];rfl
  | false=>
   rw[if_neg (by decide)];simp at hq;have hlast: -1<=last:=by rcases hc with ⟨_,rfl⟩ | ⟨h,_⟩ <;> omega
   obtain ⟨kn,rfl⟩:∃kn:Nat,k=(kn:Int):=⟨k.toNat,by omega⟩;have hkl:kn < e.To.length:=by omega
   have hw:e.To[kn]? =some e.To[kn]:=List.getElem?_eq_getElem hkl;generalize e.To[kn]=w at hw;have hmem:=List.mem_of_getElem? hw;have hqf:(decide ((kn:Int)<=last) || decide ((e.To.length:Int)<=(kn:Int)))=false:=by simp;omega
   have hb:kxa a on e (p.length:Int)=some (if wDom w !=a.Domain then .out (.inr (0,⟨5,p.length⟩)) else if w.Result !=0 || w.Busy !=on then .out (.inr (0,⟨8,p.length⟩)) else .cont ((p.length+1:Nat):Int)):=by
    unfold kxa;rw[zPa hx,zqa hx];simp only[cond_true,Option.bind_some];rw[hcond,hqf];simp only[Option.bind_some,cond_false,zqa hw,jca _ (he.2 w hmem),zWa,sc _ (show p.length < 9223372036854775807 by omega)];show _=some (if wDom w !=a.Domain then _ else _);unfold wDom;cases (Wpa w.Recipient.Address !=a.Domain) <;> cases (w.Result !=0) <;> cases (w.Busy !=on) <;> rfl
   simp only[Int.toNat_natCast,hw];cases h1:wDom w !=a.Domain with
   | true=>rw[h1]at hb;rw[zEa hb];rfl
   | false=>
    rw[h1]at hb;cases h2:w.Result !=0 || w.Busy !=on with
    | true=>rw[h2]at hb;rw[zEa hb];rfl
    | false=>
     rw[h2]at hb;simp only[Bool.false_eq_true,if_false]at hb ⊢;rw[zSa hb];have:=ih (p++ [(kn:Int)]) (kn:Int) (by simp[hp]) (.inr ⟨by omega,p,rfl⟩);simpa using this
theorem wob(e:zba)(a:zka)(on:Bool)(he:jba e.To)(hl:a.To.length<=1048576):∀(r p:List Int) (last:Int),a.To=p++r-> -1<=last->last<=1048576->
 iter (kha a on e) (last,(p.length:Int))=some (match toR e a.Domain on p.length last r with | some f=>.inr (0,f) | none=>.inl ()):=by
 intro r;have h0:=he.1;induction r with
 | nil=>
  intro p last hp h1 h2;have hp' :a.To=p:=by simpa using hp
  refine zEa ?_;unfold kha;dsimp only;rw[<-hp',zAa];rfl
 | cons k r ih=>
  intro p last hp h1 h2;have hx:a.To[p.length]? =some k:=by rw[hp];simp
  have hlt:=zBa hx;have hin:R_In k (w64 (last+1)) (w64 ((e.To.length:Int) - 1))=some (!(decide (k<=last) || decide ((e.To.length:Int)<=k))):=by
   rw[vya,qGa (n:=last+1) (by omega) (by omega),qGa (n:=(e.To.length:Int) - 1) (by omega) (by omega)]
   congr 1
   rw[Bool.eq_iff_iff];simp;omega
  unfold toR;cases hq:decide (k<=last) || decide ((e.To.length:Int)<=k) with
  | true=>
   rw[if_pos rfl];refine zEa ?_;unfold kha;dsimp only;rw[zPa hx,zqa hx];simp only[cond_true,Option.bind_some];rw[hin,hq];rfl
  | false=>
   rw[if_neg (by decide)];have hqf:=hq;simp at hq;obtain ⟨kn,rfl⟩:∃kn:Nat,k=(kn:Int):=⟨k.toNat,by omega⟩;have hkl:kn < e.To.length:=by omega
   have hw:e.To[kn]? =some e.To[kn]:=List.getElem?_eq_getElem hkl;generalize e.To[kn]=w at hw;have hb:kha a on e (last,(p.length:Int))=some (if wDom w !=a.Domain then .out (.inr (0,⟨5,p.length⟩)) else if w.Result !=0 || w.Busy !=on then .out (.inr (0,⟨8,p.length⟩)) else .cont ((kn:Int),((p.length+1:Nat):Int))):=by
    unfold kha;dsimp only;rw[zPa hx,zqa hx];simp only[cond_true,Option.bind_some];rw[hin,hqf];simp only[Option.bind_some,Bool.not_false,Bool.not_true,cond_false,zqa hw,Vsa e kn w he hw,wVa,sc _ (show p.length < 9223372036854775807 by omega)];cases (wDom w !=a.Domain) <;> cases (w.Result !=0) <;> cases (w.Busy !=on) <;> rfl
   simp only[Int.toNat_natCast,hw];cases h3:wDom w !=a.Domain with
   | true=>rw[h3]at hb;rw[zEa hb];rfl
   | false=>
    rw[h3]at hb;cases h4:w.Result !=0 || w.Busy !=on with
    | true=>rw[h4]at hb;rw[zEa hb];rfl
    | false=>
     rw[h4]at hb;simp only[Bool.false_eq_true,if_false]at hb ⊢;rw[zSa hb];have:=ih (p++ [(kn:Int)]) (kn:Int) (by simp[hp]) (by omega) (by omega);simpa using this
theorem posR_eq(q:zna)(a:zka)(ok:wjb q):iter (kKa q a) (-1,0)=some (posI q.Entries a.Entry):=by
 have hn:=ok.n;let Inv:Nat->Int->Prop:=fun i b=>(b= -1/\∀j x,j < i->q.Entries[j]? =some x->x.Id≠a.Entry)∨∃(n:Nat) (x:zba),b=(n:Int)/\q.Entries[n]? =some x/\x.Id=a.Entry
 obtain ⟨b,hb,hinv,_⟩:=Yva q.Entries (fun i b=>(b,i)) (fun i b x=>if x.Id==a.Entry then (i:Int) else b) (fun b=>b) Inv (body:=kKa q a) (fun s _=>by
  unfold kKa;dsimp only;rw[zAa];rfl) (fun i x b hx hi=>by
  have hil:=zBa hx;refine ⟨?_,?_⟩
  .unfold kKa;dsimp only;rw[zPa hx,zqa hx];simp only[cond_true,Option.bind_some,sc i (by omega)];cases x.Id==a.Entry <;> rfl
  by_cases he:x.Id=a.Entry
  .rw[if_pos (by simpa using he)];exact .inr ⟨i,x,rfl,hx,he⟩
  rw[if_neg (by simpa using he)];rcases hi with ⟨rfl,h⟩ | h
  .refine .inl ⟨rfl,fun j y hj hy=>?_⟩;by_cases hji:j=i
   .subst hji;rw[hx]at hy;cases hy;exact he
   exact h j y (by omega) hy
  exact .inr h) (-1) (.inl ⟨rfl,fun j x hj=>by omega⟩)
 rw[hb]
 congr 1
 rcases hinv with ⟨rfl,h⟩ | ⟨n,x,rfl,hx,he⟩
 .rcases Wwa q.Entries a.Entry with ⟨h1,_⟩ | ⟨m,y,h1,h2,h3⟩
  .rw[h1]
  exact absurd h3 (h m y (zBa h2) h2)
 rcases Wwa q.Entries a.Entry with ⟨_,h2⟩ | ⟨m,y,h1,h2,h3⟩
 .exact absurd he (h2 x (List.mem_of_getElem? hx))
 rw[h1];have hxy:x=y:=k4b ok.ids x (List.mem_of_getElem? hx) y (List.mem_of_getElem? h2) (by rw[he,h3]);have hlt:=zBa hx;have hlt2:=zBa h2;have hpw:=List.pairwise_iff_getElem.1 ok.ids;rw[List.getElem?_eq_getElem hlt]at hx;rw[List.getElem?_eq_getElem hlt2]at h2;cases hx;cases h2;rcases Nat.lt_trichotomy n m with h | h | h
 .have:=hpw n m hlt hlt2 h;omega
 .rw[h]
 have:=hpw m n hlt2 hlt h;omega
theorem Zoa(q:zna)(a:zka)(on:Bool)(hq:vLa q)(hw:ZUa q)(hl:a.To.length<=1048576):vJa q a on=some (if (queF q).Code !=0 then (0,queF q) else attP q a on):=by
 unfold vJa attP;rw[vKa q hq];simp only[Option.bind_some,kja,zWa,kwa];by_cases hc:(queF q).Code=0
 .obtain ⟨ok,hF⟩:=Zca hc;have hn:=ok.n;have h1:((queF q).Code !=0)=false:=by simp[hc]
  rw[h1];simp only[cond_false,Bool.false_eq_true,if_false];have hpos:((iter (q8a q a) 0).bind (Sum.elim (fun b8=>some ((-1))) (fun b9=>some b9)):Option Int)=some (posI q.Entries a.Entry):=by
   rw[zNa q.Entries (fun i x=>if x.Id==a.Entry then some ((i:Nat):Int) else none) (.inl ()) .inr]
   .simp only[Option.bind_some,Qua];rfl
   .unfold q8a;rw[zAa];rfl
   intro i x hx;have hi:=zBa hx;unfold q8a;rw[zPa hx,zqa hx];simp only[cond_true,Option.bind_some,sc i (by omega)];cases x.Id==a.Entry <;> rfl
  rw[hpos];simp only[Option.bind_some];rcases Wwa q.Entries a.Entry with ⟨h2,_⟩ | ⟨n,e,h2,h3,h4⟩
  .rw[h2];rfl
  rw[h2];have hlt:=zBa h3;rw[decide_eq_false (show ¬((n:Int) < 0) by omega),if_neg (by omega),zqa h3];simp only[cond_false,Option.bind_some,Int.toNat_natCast,h3];have e1:((bif ((a.To.length:Int)==0) then some true else some (decide ((e.To.length:Int) < (a.To.length:Int)))):Option Bool)=some (decide (a.To.length=0∨e.To.length < a.To.length)):=by
   by_cases h0:a.To.length=0
   .rw[h0];simp
   rw[show ((a.To.length:Int)==0)=false by rw[beq_eq_false_iff_ne];omega];simp only[cond_false,Option.some.injEq]
   congr 1;apply propext;omega
  rw[e1];simp only[Option.bind_some];by_cases h5:a.To.length=0∨e.To.length < a.To.length
  .rw[decide_eq_true h5,if_pos h5];rfl
  rw[decide_eq_false h5,if_neg h5];simp only[cond_false];have:=att_loop e a on (hw e (List.mem_of_getElem? h3)) hl a.To [] (-1) rfl (.inl ⟨rfl,rfl⟩);rw[show iter (kxa a on e) 0=_ from this];simp only[List.length_nil];cases toR e a.Domain on 0 (-1) a.To <;> rfl
 have h1:((queF q).Code !=0)=true:=by simpa using hc
 rw[h1];rfl
theorem jqa(q:zna)(a:zka)(on:Bool)(ok:wjb q)(hw:ZUa q)(hl:a.To.length<=1048576):qRa q a on=some (attP q a on):=by
 unfold qRa attP;rw[posR_eq q a ok];simp only[Option.bind_some,wVa,vya];rcases Wwa q.Entries a.Entry with ⟨h2,_⟩ | ⟨n,e,h2,h3,h4⟩
 .rw[h2];rfl
 rw[h2];have hlt:=zBa h3;rw[decide_eq_false (show ¬((n:Int) < 0) by omega),if_neg (by omega),zqa h3];simp only[cond_false,Option.bind_some,Int.toNat_natCast,h3];have e1:(!(decide ((1:Int)<=(a.To.length:Int)) && decide ((a.To.length:Int)<=(e.To.length:Int))))=decide (a.To.length=0∨e.To.length < a.To.length):=by
  rw[Bool.eq_iff_iff];simp only[Bool.not_eq_true',Bool.and_eq_false_iff,decide_eq_false_iff_not,decide_eq_true_iff];omega
 rw[e1];by_cases h5:a.To.length=0∨e.To.length < a.To.length
 .rw[decide_eq_true h5,if_pos h5];rfl
 rw[decide_eq_false h5,if_neg h5];simp only[cond_false];have:=wob e a on (hw e (List.mem_of_getElem? h3)) hl a.To [] (-1) rfl (by omega) (by omega);rw[show iter (kha a on e) (-1,0)=_ from this];simp only[List.length_nil];cases toR e a.Domain on 0 (-1) a.To <;> rfl
def wTo(e:zba)(T:List zda):zba:=⟨e.Id,e.Mail,e.Since,e.Tries,e.Due,T⟩
def onK(T:List zda)(k:Int):List zda:=match T[k.toNat]? with
 | some w=>T.set k.toNat ⟨w.Recipient,w.Result,true⟩
 | none=>T
theorem wpb(T:List zda)(k:Int):(onK T k).length=T.length:=by unfold onK;split <;> simp
theorem k5b(e:zba)(dom:Str)(on:Bool):∀(ks:List Int) (i:Nat) (last:Int) (f:zpa),toR e dom on i last ks=some f->f.Code≠0
 | [],_,_,_,h=>by cases h
 | k::ks,i,last,f,h=>by
  unfold toR at h;split at h
  .cases h;simp
  split at h
  .cases h
  split at h
  .cases h;simp
  split at h
  .cases h;simp
  exact k5b e dom on ks _ _ _ h
theorem VMa(e:zba)(dom:Str)(on:Bool):∀(ks:List Int) (i:Nat) (last:Int), -1<=last->toR e dom on i last ks=none->∀k∈ks,last < k/\k < (e.To.length:Int)/\∃w,e.To[k.toNat]? =some w/\wDom w=dom/\w.Result=0/\w.Busy=on
 | [],_,_,_,_,k,hk=>by cases hk
 | k::ks,i,last,hl,h,x,hx=>by
  unfold toR at h;split at h
  .cases h
  rename_i h1;simp at h1;have hkl:k.toNat < e.To.length:=by omega
  rw[List.getElem?_eq_getElem hkl]at h;generalize hw:e.To[k.toNat]=w at h;dsimp only at h;split at h
  .cases h
  rename_i h2;split at h
  .cases h
  rename_i h3;simp at h2 h3;rcases List.mem_cons.1 hx with rfl | hx
  .exact ⟨by omega,by omega,w,by rw[List.getElem?_eq_getElem hkl,hw],h2,h3.1,h3.2⟩
  obtain ⟨a,b,c⟩:=VMa e dom on ks _ k (by omega) h x hx;exact ⟨by omega,b,c⟩
theorem Wxa{q:zna}{a:zka}{on:Bool}(h:(attP q a on).2.Code=0):∃(n:Nat) (e:zba),attP q a on=((n:Int),⟨0,0⟩)/\q.Entries[n]? =some e/\e.Id=a.Entry/\toR e a.Domain on 0 (-1) a.To=none/\1<=a.To.length/\a.To.length<=e.To.length:=by
 unfold attP at h ⊢;rcases Wwa q.Entries a.Entry with ⟨h2,_⟩ | ⟨n,e,h2,h3,h4⟩
 .rw[h2]at h;simp at h
 rw[h2]at h ⊢;rw[if_neg (by omega)]at h ⊢;simp only[Int.toNat_natCast,h3]at h ⊢;by_cases h5:a.To.length=0∨e.To.length < a.To.length
 .rw[if_pos h5]at h;simp at h
 rw[if_neg h5]at h ⊢;cases ht:toR e a.Domain on 0 (-1) a.To with
 | some f=>rw[ht]at h;exact absurd h (k5b _ _ _ _ _ _ _ ht)
 | none=>exact ⟨n,e,rfl,h3,h4,ht,by omega,by omega⟩
def zsb(L:List zba)(n:Nat)(ks:List Int):List zba:=match L[n]? with
 | some e=>L.set n (wTo e (ks.foldl onK e.To))
 | none=>L
def kub(q:zna)(a:zka):zna × zpa:=
 if (queF q).Code !=0 then (⟨[],0⟩,queF q) else if (attP q a false).2.Code !=0 then (⟨[],0⟩,(attP q a false).2) else
 if decide (2<=q9a q.Entries a.Domain) || uwP ((q.Entries[(attP q a false).1.toNat]?).getD ⟨0,⟨⟨[],[],[]⟩,⟨[],[]⟩⟩,0,0,0,[]⟩) a.Domain then (⟨[],0⟩,⟨8, -5⟩) else (⟨zsb q.Entries (attP q a false).1.toNat a.To,q.Next⟩,⟨0,0⟩)
theorem wXa{L:List zba}{n:Nat}(hn:n < L.length)(x:zba):idx (L.set n x) (n:Int)=some x:=zqa (by simp[hn])
theorem YHa{a:zka}{f:zpa}{L:List zba}{n:Nat}{e:zba}(he:L[n]? =some e)(hl:a.To.length<=1048576)(hk:∀k∈a.To,0<=k/\k < (e.To.length:Int))
 {body:Int × List zba->Option (Step (Int × List zba) (List zba))} (hb:body=wCa a ((n:Int),f) (L,L.length)∨body=y4a a ((n:Int),f) (L,L.length)):
 iter body (0,L)=some (L.set n (wTo e (a.To.foldl onK e.To))):=by
 have hn:=zBa he;have key:∀(r p:List Int) (T:List zda),a.To=p++r->T.length=e.To.length->iter body ((p.length:Int),L.set n (wTo e T))=some (L.set n (wTo e (r.foldl onK T))):=by
  intro r;induction r with
  | nil=>
   intro p T hp hT;have hp' :a.To=p:=by simpa using hp
   refine zEa ?_;rcases hb with rfl | rfl
   .unfold wCa;dsimp only;rw[<-hp',zAa];rfl
   unfold y4a;dsimp only;rw[<-hp',zAa];rfl
  | cons k r ih=>
   intro p T hp hT;have hx:a.To[p.length]? =some k:=by rw[hp];simp
   have hlt:=zBa hx;obtain ⟨k0,k1⟩:=hk k (List.mem_of_getElem? hx);obtain ⟨kn,rfl⟩:∃kn:Nat,k=(kn:Int):=⟨k.toNat,by omega⟩;have hkT:T[kn]? =some (T[kn]'(by omega)):=List.getElem?_eq_getElem (by omega);generalize T[kn]'(by omega)=w at hkT;have hon:onK T (kn:Int)=T.set kn ⟨w.Recipient,w.Result,true⟩:=by unfold onK;simp only[Int.toNat_natCast,hkT]
   have hnown:nown L.length (n:Int)=some true:=by unfold nown;rw[if_pos (by simpa using hn)]
   have hw:idx (wTo e T).To (kn:Int)=some w:=zqa hkT;have hc:body ((p.length:Int),L.set n (wTo e T))=some (.cont (((p.length+1:Nat):Int),L.set n (wTo e (onK T (kn:Int))))):=by
    rcases hb with rfl | rfl
    .unfold wCa;dsimp only;rw[zPa hx,zqa hx];simp only[cond_true,Option.bind_some,wXa hn,hnown,hw,sc _ (show p.length < 9223372036854775807 by omega),Int.toNat_natCast,List.set_set,hon];rfl
    unfold y4a;dsimp only;rw[zPa hx,zqa hx];simp only[cond_true,Option.bind_some,wXa hn,hnown,hw,sc _ (show p.length < 9223372036854775807 by omega),Int.toNat_natCast,List.set_set,hon];rfl
   rw[zSa hc];have:=ih (p++ [(kn:Int)]) (onK T (kn:Int)) (by simp[hp]) (by rw[wpb,hT]);simpa using this
 have h0:L.set n (wTo e e.To)=L:=QCa he;have:=key a.To [] e.To rfl rfl;rw[h0]at this;exact this
theorem yJa{q:zna}(hq:vLa q)(ok:wjb q):kqb q.Entries:=⟨hq.1,hq.2⟩
theorem QGa(q:zna)(a:zka)(hq:vLa q)(hw:ZUa q)(hl:a.To.length<=1048576):yGa q a=some (kub q a):=by
 unfold yGa kub;rw[Zoa q a false hq hw hl];simp only[Option.bind_some,kja,zWa,kwa];by_cases hc:(queF q).Code=0
 .obtain ⟨ok,hF⟩:=Zca hc;have h1:((queF q).Code !=0)=false:=by simp[hc]
  have hn:=ok.n;rw[h1];simp only[Bool.false_eq_true,if_false];by_cases hca:(attP q a false).2.Code=0
  .obtain ⟨n,e,ha,he,hid,ht,t1,t2⟩:=Wxa hca;have hne:=zBa he;rw[ha];simp only[bne_self_eq_false,cond_false,Bool.false_eq_true,if_false,Int.toNat_natCast,he,Option.getD_some];obtain ⟨u,m,hbz,hu,hm⟩:=wmb q hn hw ok.ids;rw[show iter (j4a q) (0,([]:List ((Int × Str) × Bool)),([]:List (Str × Int)))=some (u,m) from hbz];simp only[Option.bind_some,hm,hu];have e1:(q.Entries.any fun x=>a.Entry==x.Id && uwP x a.Domain)=uwP e a.Domain:=by
    rw[Bool.eq_iff_iff,List.any_eq_true];constructor
    .rintro ⟨x,hx,hxe⟩;simp at hxe;have:x=e:=k4b ok.ids x hx e (List.mem_of_getElem? he) (by rw[hid];exact hxe.1.symm);rw[<-this];exact hxe.2
    intro h;exact ⟨e,List.mem_of_getElem? he,by simp[h,hid]⟩
   rw[e1];have e2:decide ((2:Int)<=(q9a q.Entries a.Domain:Int))=decide (2<=q9a q.Entries a.Domain):=by congr 1;apply propext;omega
   rw[e2];have e3:((bif decide (2<=q9a q.Entries a.Domain) then some true else some (uwP e a.Domain)):Option Bool)=some (decide (2<=q9a q.Entries a.Domain) || uwP e a.Domain):=by cases decide (2<=q9a q.Entries a.Domain) <;> rfl
   rw[e3];simp only[Option.bind_some];cases decide (2<=q9a q.Entries a.Domain) || uwP e a.Domain with
   | true=>rfl
   | false=>
    simp only[cond_false,Bool.false_eq_true,if_false];rw[qha _ (by omega)];simp only[Option.bind_some];rw[show iter (j5a q.Entries) (0,0,q.Entries)=some (q.Entries,q.Entries.length) from QFa q.Entries (yJa hq ok)];simp only[Option.bind_some];rw[YHa he hl (fun k hk=>by have:=VMa _ _ _ _ _ _ (by omega) ht k hk;omega) (.inl rfl)];unfold zsb;rw[he];rfl
  have h2:((attP q a false).2.Code !=0)=true:=by simpa using hca
  rw[h2];rfl
 have h1:((queF q).Code !=0)=true:=by simpa using hc
 rw[h1];simp only[if_true,h1,cond_true]
theorem kvb(q:zna)(a:zka)(hq:vLa q)(hw:ZUa q)(hl:a.To.length<=1048576):Qpa q a=some (kub q a):=by
 unfold Qpa kub;rw[yqa q hq];simp only[Option.bind_some,wVa];by_cases hc:(queF q).Code=0
 .obtain ⟨ok,hF⟩:=Zca hc;have h1:((queF q).Code !=0)=false:=by simp[hc]
  have hn:=ok.n;rw[h1];simp only[cond_false,Bool.false_eq_true,if_false];rw[jqa q a false ok hw hl];simp only[Option.bind_some];by_cases hca:(attP q a false).2.Code=0
  .obtain ⟨n,e,ha,he,hid,ht,t1,t2⟩:=Wxa hca;have hne:=zBa he;rw[ha];simp only[bne_self_eq_false,beq_self_eq_true,cond_true,Bool.false_eq_true,if_false,Int.toNat_natCast,he,Option.getD_some];rw[W0a q _ (by omega) hw];simp only[Option.bind_some,zqa he,KFa e _ (hw e (List.mem_of_getElem? he))];have e2:decide ((2:Int)<=(q9a q.Entries a.Domain:Int))=decide (2<=q9a q.Entries a.Domain):=by congr 1;apply propext;omega
   rw[e2];have e3:((bif decide (2<=q9a q.Entries a.Domain) then some true else some (uwP e a.Domain)):Option Bool)=some (decide (2<=q9a q.Entries a.Domain) || uwP e a.Domain):=by cases decide (2<=q9a q.Entries a.Domain) <;> rfl
   rw[e3];simp only[Option.bind_some];cases decide (2<=q9a q.Entries a.Domain) || uwP e a.Domain with
   | true=>rfl
   | false=>
    simp only[cond_false,Option.bind_some,bne_self_eq_false,Bool.false_eq_true,if_false];rw[show iter (KRa q) (0,0,([]:List zba))=some (q.Entries,q.Entries.length) from Vaa q (yJa hq ok)];simp only[Option.bind_some];rw[YHa he hl (fun k hk=>by have:=VMa _ _ _ _ _ _ (by omega) ht k hk;omega) (.inr rfl)];unfold zsb;rw[he];rfl
  have h2:((attP q a false).2.Code !=0)=true:=by simpa using hca
  have h3:((attP q a false).2.Code==0)=false:=by simpa using hca
  rw[h2,h3];simp only[cond_false,Option.bind_some,h2,cond_true,if_true]
 have h1:((queF q).Code !=0)=true:=by simpa using hc
 rw[h1];rfl
def KXa(t:Int):Int:=if 8 < t then 14400 else 60 * 2 ^ (t - 1).toNat
theorem zHa(t w i w' i' :Int)(h1:decide (i < t)=true)(h2:decide (w < 14400)=true)(h3:min (w64 (2 * w)) 14400=w')(h4:w64 (i+1)=i'):iter (qfa t) (w,i)=iter (qfa t) (w',i'):=by
 refine zSa ?_;unfold qfa;dsimp only;rw[h1,h2,h3,h4];rfl
theorem wJa(t w i:Int)(h:(decide (i < t) && decide (w < 14400))=false):iter (qfa t) (w,i)=some w:=by
 refine zEa ?_;unfold qfa;dsimp only;cases h1:decide (i < t) with
 | false=>rfl
 | true=>rw[h1]at h;simp only[Bool.true_and]at h;rw[h];rfl
theorem wait_eq(t:Int)(h:1<=t):iter (qfa t) (60,1)=some (KXa t):=by
 by_cases h8:8 < t
 .unfold KXa;rw[if_pos h8];rw[zHa t 60 1 120 2 (decide_eq_true (by omega)) rfl rfl rfl,zHa t 120 2 240 3 (decide_eq_true (by omega)) rfl rfl rfl,zHa t 240 3 480 4 (decide_eq_true (by omega)) rfl rfl rfl,zHa t 480 4 960 5 (decide_eq_true (by omega)) rfl rfl rfl,zHa t 960 5 1920 6 (decide_eq_true (by omega)) rfl rfl rfl,zHa t 1920 6 3840 7 (decide_eq_true (by omega)) rfl rfl rfl,zHa t 3840 7 7680 8 (decide_eq_true (by omega)) rfl rfl rfl,zHa t 7680 8 14400 9 (decide_eq_true (by omega)) rfl rfl rfl];exact wJa t 14400 9 (by simp)
 have:t=1∨t=2∨t=3∨t=4∨t=5∨t=6∨t=7∨t=8:=by omega
 rcases this with rfl | rfl | rfl | rfl | rfl | rfl | rfl | rfl
 .exact wJa 1 60 1 rfl
 .rw[zHa 2 60 1 120 2 rfl rfl rfl rfl];exact wJa 2 120 2 rfl
 .rw[zHa 3 60 1 120 2 rfl rfl rfl rfl,zHa 3 120 2 240 3 rfl rfl rfl rfl];exact wJa 3 240 3 rfl
 .rw[zHa 4 60 1 120 2 rfl rfl rfl rfl,zHa 4 120 2 240 3 rfl rfl rfl rfl,zHa 4 240 3 480 4 rfl rfl rfl rfl];exact wJa 4 480 4 rfl
 .rw[zHa 5 60 1 120 2 rfl rfl rfl rfl,zHa 5 120 2 240 3 rfl rfl rfl rfl,zHa 5 240 3 480 4 rfl rfl rfl rfl,zHa 5 480 4 960 5 rfl rfl rfl rfl];exact wJa 5 960 5 rfl
 .rw[zHa 6 60 1 120 2 rfl rfl rfl rfl,zHa 6 120 2 240 3 rfl rfl rfl rfl,zHa 6 240 3 480 4 rfl rfl rfl rfl,zHa 6 480 4 960 5 rfl rfl rfl rfl,zHa 6 960 5 1920 6 rfl rfl rfl rfl];exact wJa 6 1920 6 rfl
 .rw[zHa 7 60 1 120 2 rfl rfl rfl rfl,zHa 7 120 2 240 3 rfl rfl rfl rfl,zHa 7 240 3 480 4 rfl rfl rfl rfl,zHa 7 480 4 960 5 rfl rfl rfl rfl,zHa 7 960 5 1920 6 rfl rfl rfl rfl,zHa 7 1920 6 3840 7 rfl rfl rfl rfl];exact wJa 7 3840 7 rfl
 rw[zHa 8 60 1 120 2 rfl rfl rfl rfl,zHa 8 120 2 240 3 rfl rfl rfl rfl,zHa 8 240 3 480 4 rfl rfl rfl rfl,zHa 8 480 4 960 5 rfl rfl rfl rfl,zHa 8 960 5 1920 6 rfl rfl rfl rfl,zHa 8 1920 6 3840 7 rfl rfl rfl rfl,zHa 8 3840 7 7680 8 rfl rfl rfl rfl];exact wJa 8 7680 8 rfl
theorem wqb(t:Int)(h:1<=t):J9a t=some (KXa t):=by
 unfold J9a KXa;by_cases h8:8 < t
 .rw[decide_eq_true h8,if_pos h8];rfl
 have:t=1∨t=2∨t=3∨t=4∨t=5∨t=6∨t=7∨t=8:=by omega
 rcases this with rfl | rfl | rfl | rfl | rfl | rfl | rfl | rfl <;> rfl
theorem Vta(t:Int)(h:1<=t):0<=KXa t/\KXa t<=14400:=by
 unfold KXa;by_cases h8:8 < t
 .rw[if_pos h8];omega
 have:t=1∨t=2∨t=3∨t=4∨t=5∨t=6∨t=7∨t=8:=by omega
 rcases this with rfl | rfl | rfl | rfl | rfl | rfl | rfl | rfl <;> decide
def vMa(since tries now:Int):Int × Bool:=if since+345600<=now then (0,false) else (min (min (now+KXa tries) (since+345600)) 68719476736,true)
theorem jra{t:Int}(h:ypa t=true): -68719476736<=t/\t<=68719476736:=by
 unfold ypa at h;simpa using h
theorem ztb(a b:Int)(ha:ypa a=true)(hb:ypa b=true):yXa [a,b]=some true:=by
 unfold yXa;have t0:∀v,ypa v=true->qKa v=some true:=fun v hv=>by rw[wIa];exact congrArg some hv
 have h1:qna [a,b] 0=some (.cont 1):=by
  unfold qna;rw[show idx [a,b] 0=some a from rfl];simp only[Option.bind_some,t0 a ha];rfl
 have h2:qna [a,b] 1=some (.cont 2):=by
  unfold qna;rw[show idx [a,b] 1=some b from rfl];simp only[Option.bind_some,t0 b hb];rfl
 rw[zSa h1,zSa h2,zEa (r:=.inl ()) rfl];rfl
theorem Jwa(a t n:Int)(ha:ypa a=true)(hn:ypa n=true)(ht:1<=t/\t<=1000000)(hle:a<=n):jPa a t n=some ((vMa a t n).1,(vMa a t n).2,⟨0,0⟩):=by
 unfold jPa vMa;obtain ⟨a1,a2⟩:=jra ha;obtain ⟨n1,n2⟩:=jra hn;obtain ⟨w1,w2⟩:=Vta t ht.1;rw[ztb a n ha hn,wait_eq t ht.1];simp only[Option.bind_some,kwa,Bool.not_true,cond_false];rw[decide_eq_false (show ¬t < 1 by omega),decide_eq_false (show ¬(1000000:Int) < t by omega),decide_eq_false (show ¬n < a by omega),qGa (n:=a+345600) (by omega) (by omega),qGa (n:=n+KXa t) (by omega) (by omega)];simp only[cond_false,Option.bind_some];by_cases h:a+345600<=n
 .rw[decide_eq_true h,if_pos h];rfl
 rw[decide_eq_false h,if_neg h];rfl
theorem qWb(a t n:Int)(ha:ypa a=true)(hn:ypa n=true)(ht:1<=t/\t<=1000000)(hle:a<=n):Wga a t n=some ((vMa a t n).1,(vMa a t n).2,⟨0,0⟩):=by
 unfold Wga vMa;obtain ⟨a1,a2⟩:=jra ha;obtain ⟨n1,n2⟩:=jra hn;obtain ⟨w1,w2⟩:=Vta t ht.1;rw[wqb t ht.1];simp only[vya,Option.bind_some];rw[decide_eq_true a1,decide_eq_true a2,decide_eq_true n1,decide_eq_true n2,decide_eq_true ht.1,decide_eq_true ht.2,decide_eq_false (show ¬n < a by omega),qGa (n:=n - a) (by omega) (by omega),qGa (n:=a+345600) (by omega) (by omega),qGa (n:=n+KXa t) (by omega) (by omega)];simp only[Bool.and_self,Bool.not_true,cond_false,Option.bind_some];by_cases h:a+345600<=n
 .rw[decide_eq_true (show 345600<=n - a by omega),if_pos h];rfl
 rw[decide_eq_false (show ¬345600<=n - a by omega),if_neg h];simp only[cond_false];have e1:((bif decide (a+345600 < n+KXa t) then some (a+345600) else some (n+KXa t)):Option Int)=some (min (n+KXa t) (a+345600)):=by
  by_cases h1:a+345600 < n+KXa t
  .rw[decide_eq_true h1,Int.min_eq_right (by omega)];rfl
  rw[decide_eq_false h1,Int.min_eq_left (by omega)];rfl
 rw[e1];simp only[Option.bind_some];generalize min (n+KXa t) (a+345600)=x;have e2:((bif decide (68719476736 < x) then some 68719476736 else some x):Option Int)=some (min x 68719476736):=by
  by_cases h1:68719476736 < x
  .rw[decide_eq_true h1,Int.min_eq_right (by omega)];rfl
  rw[decide_eq_false h1,Int.min_eq_left (by omega)];rfl
 rw[e2];rfl
def offW(w:zda):zda:=⟨w.Recipient,w.Result,false⟩
def KYa(e:zba):zba:=wTo e (e.To.map offW)
def kwb(q:zna):zna:=⟨q.Entries.map KYa,q.Next⟩
theorem YIa{L:List zba}{n m:Nat}{e:zba}(he:L[n]? =some e)(hl:e.To.length<=1048576)(hm:n < m)(sx:Int × List zba)(hsx:sx.1=(n:Int))
 (bx:List zba × Nat) (hbx:bx.2=m) {body:Int × List zba->Option (Step (Int × List zba) (List zba))} (hb:body=wFa sx e∨body=y6a bx sx):
 iter body (0,L)=some (L.set n (KYa e)):=by
 have hn:=zBa he;have key:∀(r p:List zda),e.To=p++r->iter body ((p.length:Int),L.set n (wTo e (p.map offW++r)))=some (L.set n (KYa e)):=by
  intro r;induction r with
  | nil=>
   intro p hp;have hp' :e.To=p:=by simpa using hp
   have e0:L.set n (wTo e (p.map offW++ []))=L.set n (KYa e):=by unfold KYa;rw[hp'];simp
   refine zEa ?_;rcases hb with rfl | rfl
   .unfold wFa;dsimp only;rw[<-hp',zAa,hp',e0];rfl
   unfold y6a;dsimp only;have hnown:nown bx.2 (n:Int)=some true:=by unfold nown;rw[hbx,if_pos (by simpa using hm)]
   rw[hsx];simp only[wXa hn,hnown,Option.bind_some];have:((wTo e (p.map offW++ [])).To.length:Int)=(p.length:Int):=by simp[wTo]
   rw[this,zAa,e0];rfl
  | cons w r ih=>
   intro p hp;have hx:e.To[p.length]? =some w:=by rw[hp];simp
   have hlt:=zBa hx;have hT:(p.map offW++w::r)[p.length]? =some w:=by
    rw[List.getElem?_append_right (by simp)];simp
   have hTs:(p.map offW++w::r).set p.length (offW w)=(p++ [w]).map offW++r:=by
    rw[List.set_append_right _ _ (by simp)];simp
   have hw:idx (wTo e (p.map offW++w::r)).To (p.length:Int)=some w:=zqa hT;have hc:body ((p.length:Int),L.set n (wTo e (p.map offW++w::r)))=some (.cont (((p.length+1:Nat):Int),L.set n (wTo e ((p++ [w]).map offW++r)))):=by
    rw[<-hTs];rcases hb with rfl | rfl
    .unfold wFa;dsimp only;rw[zPa hx,hsx];simp only[cond_true,Option.bind_some,wXa hn,hw,sc _ (show p.length < 9223372036854775807 by omega),Int.toNat_natCast,List.set_set];rfl
    unfold y6a;dsimp only;have hnown:nown bx.2 (n:Int)=some true:=by unfold nown;rw[hbx,if_pos (by simpa using hm)]
    rw[hsx];simp only[wXa hn,hnown,Option.bind_some];have:decide ((p.length:Int) < ((wTo e (p.map offW++w::r)).To.length:Int))=true:=decide_eq_true (by simp[wTo];omega);rw[this];simp only[cond_true,Option.bind_some,wXa hn,hw,sc _ (show p.length < 9223372036854775807 by omega),Int.toNat_natCast,List.set_set];rfl
   rw[zSa hc];have:=ih (p++ [w]) (by simp[hp]);simpa using this
 have h0:L.set n (wTo e e.To)=L:=QCa he;have:=key e.To [] rfl;simp only[List.map_nil,List.nil_append,List.length_nil]at this;rw[h0]at this;exact this
theorem zub{L:List zba}(hn:L.length<=1048576)(hl:∀e∈L,e.To.length<=1048576){body:Int × List zba->Option (Step (Int × List zba) (List zba))}(hb:body=wGa (L,L.length)∨body=y7a (L,L.length)):
 iter body (0,L)=some (L.map KYa):=by
 have key:∀(r p:List zba),L=p++r->iter body ((p.length:Int),p.map KYa++r)=some (L.map KYa):=by
  intro r;induction r with
  | nil=>
   intro p hp;have hp' :L=p:=by simpa using hp
   subst hp';refine zEa ?_;rcases hb with rfl | rfl
   .unfold wGa;dsimp only;rw[zAa];simp
   unfold y7a;dsimp only;rw[List.append_nil,List.length_map,zAa];simp
  | cons e r ih=>
   intro p hp;have hx:L[p.length]? =some e:=by rw[hp];simp
   have hlt:=zBa hx;have hG:(p.map KYa++e::r)[p.length]? =some e:=by rw[List.getElem?_append_right (by simp)];simp
   have hS:(p.map KYa++e::r).set p.length (KYa e)=(p++ [e]).map KYa++r:=by rw[List.set_append_right _ _ (by simp)];simp
   have hLn:(p.map KYa++e::r).length=L.length:=by rw[hp];simp
   have hnown:nown L.length (p.length:Int)=some true:=by unfold nown;rw[if_pos (by simpa using hlt)]
   have hc:body ((p.length:Int),p.map KYa++e::r)=some (.cont (((p.length+1:Nat):Int),(p++ [e]).map KYa++r)):=by
    rw[<-hS];rcases hb with rfl | rfl
    .unfold wGa;dsimp only;rw[zPa hx,zqa hG];simp only[cond_true,Option.bind_some,hnown];rw[YIa hG (hl e (List.mem_of_getElem? hx)) hlt _ rfl (L,L.length) rfl (.inl rfl)];simp only[Option.bind_some,sc _ (show p.length < 9223372036854775807 by omega)]
    unfold y7a;dsimp only;rw[hLn,zPa hx];simp only[cond_true];rw[YIa hG (hl e (List.mem_of_getElem? hx)) hlt _ rfl (L,L.length) rfl (.inr rfl)];simp only[Option.bind_some,sc _ (show p.length < 9223372036854775807 by omega)]
   rw[zSa hc];have:=ih (p++ [e]) (by simp[hp]);simpa using this
 exact key L [] rfl
theorem Jxa(q:zna)(hq:vLa q):jQa q=some (if (queF q).Code !=0 then (⟨[],0⟩,queF q) else (kwb q,⟨0,0⟩)):=by
 unfold jQa;rw[vKa q hq];simp only[Option.bind_some,kja,kwa];by_cases hc:(queF q).Code=0
 .obtain ⟨ok,hF⟩:=Zca hc;have h1:((queF q).Code !=0)=false:=by simp[hc]
  have hn:=ok.n;rw[h1];simp only[cond_false,Bool.false_eq_true,if_false];rw[qha _ (by omega)];simp only[Option.bind_some];rw[show iter (j7a q.Entries) (0,0,q.Entries)=some (q.Entries,q.Entries.length) from QFa q.Entries (yJa hq ok)];simp only[Option.bind_some];rw[zub (by omega) (fun e he=>(hq.2 e he).2) (.inl rfl)];rfl
 have h1:((queF q).Code !=0)=true:=by simpa using hc
 rw[h1];rfl
theorem kxb(q:zna)(hq:vLa q)(ok:wjb q):Qqa q=some (kwb q):=by
 unfold Qqa;have hn:=ok.n;rw[show iter (KSa q) (0,0,([]:List zba))=some (q.Entries,q.Entries.length) from Vaa q (yJa hq ok)];simp only[Option.bind_some];rw[zub (by omega) (fun e he=>(hq.2 e he).2) (.inr rfl)];rfl
def badR(v:Int):Bool:=decide (v < 1) || decide (4 < v)
def latR(v:Int):Bool:=v==2 || v==4
def finV(again:Bool)(v:Int):Int:=if latR v then (if again then 0 else 3) else v
def resK(again:Bool)(T:List zda)(kv:Int × Int):List zda:=match T[kv.1.toNat]? with
 | some w=>T.set kv.1.toNat ⟨w.Recipient,finV again kv.2,false⟩
 | none=>T
def resS(again:Bool)(id:Int)(s:List zja × List zda)(kv:Int × Int):List zja × List zda:=(if finV again kv.2 !=0 then s.1++ [⟨id,kv.1,finV again kv.2⟩] else s.1,resK again s.2 kv)
theorem Jya(again:Bool)(T:List zda)(kv:Int × Int):(resK again T kv).length=T.length:=by unfold resK;split <;> simp
theorem latB(v:Int):((bif (v==2) then some true else some ((v==4))):Option Bool)=some (latR v):=by unfold latR;cases v==2 <;> rfl
theorem badB(v:Int):((bif decide (v < 1) then some true else some (decide (4 < v))):Option Bool)=some (badR v):=by unfold badR;cases decide (v < 1) <;> rfl
theorem wrb{α:Type}(P:α->Bool)(l:List α):decide (0<=(zZa (fun i x=>if P x then some ((i:Nat):Int) else none) 0 l).getD (-1))=l.any P:=by
 cases hf:zZa (fun i x=>if P x then some ((i:Nat):Int) else none) 0 l with
 | none=>
  rw[qva]at hf;have:l.any P=false:=by
   rw[List.any_eq_false];intro x hx hP;obtain ⟨i,hi⟩:=List.mem_iff_getElem?.1 hx;have:=hf i x hi;simp[hP]at this
  rw[this];rfl
 | some z=>
  obtain ⟨i,x,h1,h2⟩:=j8a hf;cases hP:P x with
  | false=>simp[hP]at h2
  | true=>
   simp[hP]at h2;have:l.any P=true:=List.any_eq_true.2 ⟨x,List.mem_of_getElem? h1,hP⟩;rw[this];exact decide_eq_true (by simp;omega)
theorem QHa{a:zka}{rs:List Int}{f:zpa}{L:List zba}{n m:Nat}{e e1:zba}{again:Bool}{j3:Int × Int × Int}{j60:Bool × List zba}{j63:Int × List zba}{b:List zba × Nat}
 (hn:n < L.length) (hm:n < b.2) (hl:a.To.length<=1048576) (hrl:rs.length=a.To.length) (hbad:∀v∈rs,badR v=false) (hid:e1.Id=a.Entry) (h3:j3.1=(n:Int)) (h60:rs.any latR=true->j60.1=again) (h63:rs.any latR=true->j63.1=if again then 0 else 3)
 {body:Int × List zja × List zba->Option (Step (Int × List zja × List zba) (List zja × List zba))} (hb:body=q0a a rs ((n:Int),f) b j60∨body=qta a rs j3 b j63):
 ∀(r p rr pp:List Int) (last:Int) (out:List zja) (T:List zda),a.To=p++r->rs=pp++rr->p.length=pp.length-> -1<=last->toR e a.Domain true p.length last r=none->T.length=e.To.length->(∀j:Nat,last < (j:Int)->T[j]? =e.To[j]?)->out.length<=p.length->
  iter body ((p.length:Int),out,L.set n (wTo e1 T))=some (((r.zip rr).foldl (resS again a.Entry) (out,T)).1,L.set n (wTo e1 ((r.zip rr).foldl (resS again a.Entry) (out,T)).2)):=by
 have hnown:nown b.2 (n:Int)=some true:=by unfold nown;rw[if_pos (by simpa using hm)]
 intro r;induction r with
 | nil=>
  intro p rr pp last out T hp hpp hpl hla ht hT hj ho;have hp' :a.To=p:=by simpa using hp
  refine zEa ?_;rcases hb with rfl | rfl
  .unfold q0a;dsimp only;rw[<-hp',zAa];rfl
  unfold qta;dsimp only;rw[<-hp',zAa];rfl
 | cons k r ih=>
  intro p rr pp last out T hp hpp hpl hla ht hT hj ho;have hx:a.To[p.length]? =some k:=by rw[hp];simp
  have hlt:=zBa hx;obtain ⟨v,rr',rfl⟩:∃v rr',rr=v::rr' :=by
   cases rr with
   | nil=>exfalso;rw[hp,hpp]at hrl;simp at hrl;omega
   | cons v rr' =>exact ⟨v,rr',rfl⟩
  have hv:rs[p.length]? =some v:=by rw[hpp,hpl];simp
  have hvb:=hbad v (List.mem_of_getElem? hv);have ht0:=ht;obtain ⟨k0,k1,w,w1,w2,w3,w4⟩:=VMa _ _ _ _ _ _ hla ht k (by simp);obtain ⟨kn,rfl⟩:∃kn:Nat,k=(kn:Int):=⟨k.toNat,by omega⟩;simp only[Int.toNat_natCast]at w1;have hkT:T[kn]? =some w:=by rw[hj kn k0,w1]
  have hkl:=zBa hkT;have htr:toR e a.Domain true (p.length+1) (kn:Int) r=none:=by
   unfold toR at ht;split at ht
   .cases ht
   simp only[Int.toNat_natCast,w1]at ht;split at ht
   .cases ht
   split at ht
   .cases ht
   exact ht
  have hres:resK again T ((kn:Int),v)=T.set kn ⟨w.Recipient,finV again v,false⟩:=by unfold resK;simp only[Int.toNat_natCast,hkT]
  have hvl:latR v=true->rs.any latR=true:=fun h=>List.any_eq_true.2 ⟨v,List.mem_of_getElem? hv,h⟩
  have hw:idx T (kn:Int)=some w:=zqa hkT;have happ:app 5864062014805 out ([⟨a.Entry,(kn:Int),finV again v⟩]:List zja)=some (out++ [⟨a.Entry,(kn:Int),finV again v⟩]):=vka (by simp;omega);have hw2:∀x:zda,idx (T.set kn x) (kn:Int)=some x:=fun x=>zqa (by simp[hkl])
  have hmk:∀T' :List zda,zba.mk (wTo e1 T).Id (wTo e1 T).Mail (wTo e1 T).Since (wTo e1 T).Tries (wTo e1 T).Due T' =wTo e1 T' :=fun _=>rfl
  have hmk2:∀T'' T' :List zda,zba.mk (wTo e1 T'').Id (wTo e1 T'').Mail (wTo e1 T'').Since (wTo e1 T'').Tries (wTo e1 T'').Due T' =wTo e1 T' :=fun _ _=>rfl
  have hto:∀T' :List zda,(wTo e1 T').To=T' :=fun _=>rfl
  have hids:∀T' :List zda,(wTo e1 T').Id=a.Entry:=fun _=>hid
  have hfin0:latR v=true->again=true->finV again v=0:=fun h1 h2=>by unfold finV;rw[if_pos h1,if_pos h2]
  have hc:body ((p.length:Int),out,L.set n (wTo e1 T))=some (.cont (((p.length+1:Nat):Int),(resS again a.Entry (out,T) ((kn:Int),v)).1,L.set n (wTo e1 (resS again a.Entry (out,T) ((kn:Int),v)).2))):=by
   show body ((p.length:Int),out,L.set n (wTo e1 T))=some (Step.cont (((p.length+1:Nat):Int),(if finV again v !=0 then out++ [⟨a.Entry,(kn:Int),finV again v⟩] else out),L.set n (wTo e1 (resK again T ((kn:Int),v)))));rw[hres];rcases hb with rfl | rfl
   .unfold q0a;dsimp only;rw[zPa hx,zqa hx,zqa hv];simp only[cond_true,Option.bind_some,hnown,wXa hn,hw,Int.toNat_natCast,latB,hmk2,hto,List.set_set,hw2,sc _ (show p.length < 9223372036854775807 by omega)];cases hlv:latR v with
    | true=>
     rw[h60 (hvl hlv)];cases ha:again with
     | true=>
      have:finV true v=0:=by rw[<-ha];exact hfin0 hlv ha
      rw[this];simp only[cond_true,Option.bind_some];have hww:(⟨w.Recipient,w.Result,false⟩:zda)=⟨w.Recipient,0,false⟩:=by rw[w3]
      rw[hww];rfl
     | false=>
      have hf:finV false v=3:=by unfold finV;rw[if_pos hlv];rfl
      rw[ha,hf]at happ;rw[hf];simp only[cond_true,cond_false,Option.bind_some,wXa hn,hto,hw2,hids,List.set_set,hmk2,happ];rfl
    | false=>
     have hf:finV again v=v:=by unfold finV;rw[hlv];rfl
     rw[hf]at happ;have hv0:(v !=0)=true:=by
      unfold badR at hvb;simp at hvb ⊢;omega
     rw[hf,hv0];simp only[cond_false,Option.bind_some,wXa hn,hto,hw2,hids,List.set_set,hmk2,happ,if_true]
   unfold qta;dsimp only;rw[zPa hx,zqa hx,zqa hv,h3];have hj95:((bif latR v then some j63.1 else some v):Option Int)=some (finV again v):=by
    unfold finV;cases hlv:latR v with
    | true=>rw[h63 (hvl hlv)];rfl
    | false=>rfl
   simp only[cond_true,Option.bind_some,hnown,wXa hn,hw,Int.toNat_natCast,latB,hmk2,hto,List.set_set,hw2,hj95,sc _ (show p.length < 9223372036854775807 by omega)];simp only[happ,hw2,Option.bind_some];cases finV again v !=0 <;> rfl
  rw[zSa hc];have:=ih (p++ [(kn:Int)]) rr' (pp++ [v]) (kn:Int) (resS again a.Entry (out,T) ((kn:Int),v)).1 (resS again a.Entry (out,T) ((kn:Int),v)).2 (by simp[hp]) (by simp[hpp]) (by simp[hpl]) (by omega) (by simpa using htr) (by
   show (resK again T ((kn:Int),v)).length=_;rw[Jya,hT]) (fun j hjj=>by
   show (resK again T ((kn:Int),v))[j]? =_;rw[hres,List.getElem?_set_ne (by omega)];exact hj j (by omega)) (by
   show (if finV again v !=0 then out++ [⟨a.Entry,(kn:Int),finV again v⟩] else out).length<=_;split <;> simp <;> omega)
  simpa using this
def k2a(e:zba):Int:=min (e.Tries+1) 1000000
def jsa(e:zba)(rs:List Int)(now:Int):Bool:=if rs.any latR then (vMa e.Since (k2a e) now).2 else true
def kYa(e:zba)(rs:List Int)(now:Int):zba:=if rs.any latR then ⟨e.Id,e.Mail,e.Since,k2a e,if (vMa e.Since (k2a e) now).2 then max (vMa e.Since (k2a e) now).1 e.Due else e.Due,e.To⟩ else e
def resP(e:zba)(a:zka)(rs:List Int)(now:Int):List zja × List zda:=(a.To.zip rs).foldl (resS (jsa e rs now) a.Entry) ([],e.To)
def Zda(e:zba):Bool:=e.To.any opnW
def noE:zba:=⟨0,⟨⟨[],[],[]⟩,⟨[],[]⟩⟩,0,0,0,[]⟩
def endP(q:zna)(a:zka)(rs:List Int)(now:Int)(n:Nat)(e:zba):zna × List zja × zpa:=(⟨(q.Entries.set n (wTo (kYa e rs now) (resP e a rs now).2)).filter Zda,q.Next⟩,(resP e a rs now).1,⟨0,0⟩)
def zvb(q:zna)(a:zka)(rs:List Int)(now:Int):zna × List zja × zpa:=
 if (queF q).Code !=0 then (⟨[],0⟩,[],queF q) else if (attP q a true).2.Code !=0 then (⟨[],0⟩,[],(attP q a true).2) else
 if rs.length≠a.To.length then (⟨[],0⟩,[],⟨9, -6⟩) else if rs.any badR then (⟨[],0⟩,[],⟨3, -6⟩) else if !ypa now then (⟨[],0⟩,[],⟨3, -7⟩) else
 if now < ((q.Entries[(attP q a true).1.toNat]?).getD noE).Since then (⟨[],0⟩,[],⟨19, -7⟩) else endP q a rs now (attP q a true).1.toNat ((q.Entries[(attP q a true).1.toNat]?).getD noE)
def Wya(T:List zda)(M:List zca):Prop:=T.length=M.length/\∀(j:Nat) (w:zda) (r:zca),T[j]? =some w->M[j]? =some r->wBad w r=false
theorem zwb(T:List zda)(M:List zca):Wya T M↔(T.length=M.length/\((T.zip M).any fun p=>wBad p.1 p.2)=false):=by
 unfold Wya;refine and_congr Iff.rfl ?_;rw[List.any_eq_false];constructor
 .rintro h ⟨w,r⟩ hx hb;obtain ⟨j,hj⟩:=List.mem_iff_getElem?.1 hx;rw[List.getElem?_zip_eq_some]at hj;rw[h j w r hj.1 hj.2]at hb;cases hb
 intro h j w r h1 h2;have:=h (w,r) (List.mem_of_getElem? (i:=j) (by rw[List.getElem?_zip_eq_some];exact ⟨h1,h2⟩));simpa using this
theorem qXb{again:Bool}{T:List zda}{M:List zca}{kv:Int × Int}(h:Wya T M)(hv:badR kv.2=false):Wya (resK again T kv) M:=by
 refine ⟨by rw[Jya];exact h.1,fun j w r h1 h2=>?_⟩;unfold resK at h1;split at h1
 .rename_i w0 hw0;by_cases hj:kv.1.toNat=j
  .subst hj;rw[List.getElem?_set_self (zBa hw0)]at h1;cases h1;have:=h.2 _ w0 r hw0 h2;unfold wBad at this ⊢;simp only[Bool.or_eq_false_iff]at this;obtain ⟨⟨a1,a2⟩,a3⟩:=this;rw[a1];have:finV again kv.2=0∨finV again kv.2=1∨finV again kv.2=3:=by
    unfold badR at hv;simp at hv;unfold finV;cases hl:latR kv.2 with
    | true=>cases again <;> simp
    | false=>
     unfold latR at hl;simp at hl;simp only[Bool.false_eq_true,if_false];omega
   rcases this with h | h | h <;> simp[h]
  rw[List.getElem?_set_ne hj]at h1;exact h.2 j w r h1 h2
 exact h.2 j w r h1 h2
theorem YJa{again:Bool}{id:Int}{M:List zca}:∀(l:List (Int × Int)) (s:List zja × List zda),(∀kv∈l,badR kv.2=false)->Wya s.2 M->Wya (l.foldl (resS again id) s).2 M
 | [],s,_,h=>h
 | kv::l,s,hb,h=>YJa l _ (fun x hx=>hb x (by simp[hx])) (qXb h (hb kv (by simp)))
theorem qYb{e:zba}(h:Wya e.To e.Mail.Envelope.To):Koa e=Zda e:=by
 unfold Koa Zda;rw[zwb]at h;rw[decide_eq_true h.1,h.2];rfl
theorem QIa{e:zba}(h:Koa e=true):Wya e.To e.Mail.Envelope.To/\Zda e=true:=by
 unfold Koa at h;simp only[Bool.and_eq_true,decide_eq_true_eq,Bool.not_eq_true']at h;exact ⟨(zwb _ _).2 ⟨h.1.1,h.1.2⟩,h.2⟩
theorem zxb{α:Type}{L:List α}{n:Nat}(x:α)(hn:n < L.length):L.set n x=L.take n++x::L.drop (n+1):=by
 rw[List.set_eq_take_append_cons_drop,if_pos hn]
theorem qZb{L:List zba}{n:Nat}{x:zba}(hn:n < L.length)(h:∀e∈L,Zda e=true):(L.set n x).filter Zda=if Zda x then L.set n x else L.take n++L.drop (n+1):=by
 rw[zxb x hn,List.filter_append,List.filter_cons,List.filter_eq_self.2 (fun e he=>h e (List.mem_of_mem_take he)),List.filter_eq_self.2 (fun e he=>h e (List.mem_of_mem_drop he))];split <;> rfl
theorem q0b(b:List zja × List zba)(s:Int × List zba)(n:Nat)(e:zba)(hs:s.1=(n:Int))(he:b.2[n]? =some e)(hl:e.To.length<=1048576):iter (vfa b s) (false,0)=some (Zda e):=by
 have:=ZNa (body:=vfa b s) e.To (fun n (x:Bool)=>(x,(n:Int))) (fun n r x=>x || r.any opnW) (fun x=>by
  unfold vfa;dsimp only;rw[hs,zqa he];simp only[Option.bind_some];rw[zAa];simp) (fun p x r y hp=>.inr (by
  have hx:e.To[p.length]? =some x:=by rw[hp];simp
  have hlt:=zBa hx;refine ⟨y || opnW x,?_,by simp[Bool.or_assoc]⟩;unfold vfa;dsimp only;rw[hs,zqa he];simp only[Option.bind_some];rw[zPa hx,zqa hx];simp only[cond_true,Option.bind_some,sc _ (show p.length < 9223372036854775807 by omega)];cases y <;> rfl)) (s0:=(false,0)) false rfl
 rw[this];simp[Zda]
theorem kyb(o:List zja)(L:List zba)(hn:L.length<=1048576)(hl:∀e∈L,e.To.length<=1048576):iter (qua (o,L)) (0,([]:List zba))=some (L.filter Zda):=by
 have:=Kia (body:=qua (o,L)) L (fun n (s:List zba)=>((n:Int),s)) (fun n r s=>s++r.filter Zda) (fun n r s=>s.length<=n) (fun s _=>by
  unfold qua;dsimp only;rw[zAa];simp) (fun p x r s hp hi=>.inr (by
  have hx:L[p.length]? =some x:=by rw[hp];simp
  have hlt:=zBa hx;refine ⟨if Zda x then s++ [x] else s,?_,?_,?_⟩
  .unfold qua;dsimp only;rw[zPa hx,q0b (o,L) _ p.length x rfl hx (hl x (List.mem_of_getElem? hx))];simp only[cond_true,Option.bind_some,zqa hx,sc _ (show p.length < 9223372036854775807 by omega)];rw[vka (by simp;omega)];cases Zda x <;> rfl
  .rw[List.filter_cons];split <;> simp
  split <;> (try simp) <;> omega)) (s0:=(0,([]:List zba))) [] rfl (by simp)
 rw[this];simp
theorem zyb(rs:List Int)(hl:rs.length<=1048576):∀(r p:List Int) (fl:Bool),rs=p++r->∃fl2,iter (kua rs) (fl,(p.length:Int),0,0)=some (fl2,if r.any badR then (3, -6) else (0,0))/\(r.any badR=false->fl2=(fl || r.any latR)):=by
 intro r;induction r with
 | nil=>
  intro p fl hp;have hp' :rs=p:=by simpa using hp
  refine ⟨fl,zEa ?_,fun _=>by simp⟩;unfold kua;dsimp only;rw[<-hp',zAa];rfl
 | cons v r ih=>
  intro p fl hp;have hx:rs[p.length]? =some v:=by rw[hp];simp
  have hlt:=zBa hx;have hin:(!(decide ((1:Int)<=v) && decide (v<=4)))=badR v:=by
   unfold badR;rw[Bool.eq_iff_iff];simp
  have hb:kua rs (fl,(p.length:Int),0,0)=some (.cont (fl || latR v,((p.length+1:Nat):Int),if badR v then (3, -6) else (0,0))):=by
   unfold kua;dsimp only;rw[zPa hx,zqa hx];simp only[cond_true,Option.bind_some,vya,wVa,hin,beq_self_eq_true,sc _ (show p.length < 9223372036854775807 by omega)];unfold latR;cases badR v <;> cases fl <;> cases v==2 <;> rfl
  rw[zSa hb];cases hv:badR v with
  | true=>
   refine ⟨fl || latR v,zEa ?_,fun h=>by simp[hv]at h⟩;unfold kua;dsimp only;rw[if_pos rfl];simp only[List.any_cons,hv,Bool.true_or,if_true];cases decide (((p.length+1:Nat):Int) < (rs.length:Int)) <;> rfl
  | false=>
   obtain ⟨fl2,h1,h2⟩:=ih (p++ [v]) (fl || latR v) (by simp[hp]);simp only[List.any_cons,hv,Bool.false_or,Bool.false_eq_true,if_false];simp only[List.length_append,List.length_singleton]at h1;exact ⟨fl2,h1,fun h=>by rw[h2 h,Bool.or_assoc]⟩
end Go.Proofs.YtgajlblehdboiaaGreat
