/- Part 4 of the proof of the law DigestReadMatchesSpec: what it needs. -/
import Derived.Test.YthbbeodmpnmopaaGreatDoorKDigestReadMatchesSpec3
import Derived.Lib.AtoiBound
import Derived.Lib.AtoiAllCases
import Derived.Lib.SplitLaws
set_option linter.unusedVariables false
set_option linter.unusedSimpArgs false
noncomputable section
set_option maxRecDepth 100000
set_option maxHeartbeats 40000000
namespace Go.Proofs.YthbbeodmpnmopaaGreatDoor
open Go.RowKit Go.Proofs.Tryz
section
def bAnd(a b:UInt8):UInt8:=toU8 ((a.toBitVec &&& b.toBitVec).toNat:Int)
def bOr(a b:UInt8):UInt8:=toU8 ((a.toBitVec ||| b.toBitVec).toNat:Int)
def bShl(a:UInt8)(n:Int):UInt8:=toU8 ((a.toNat:Int) * 2 ^ min n.toNat 8)
def bShr(a:UInt8)(n:Int):UInt8:=toU8 ((a.toNat:Int) / 2 ^ min n.toNat 8)
theorem toU8_shr(a:UInt8)(n:Int):((bShr a n).toNat:Int)=(a.toNat:Int) / 2 ^ min n.toNat 8:=by
 have h1:=a.toNat_lt;have h2:(0:Int) < 2 ^ min n.toNat 8:=Int.pow_pos (by decide);have h3:(a.toNat:Int) / 2 ^ min n.toNat 8<=a.toNat:=Int.ediv_le_self _ (by omega);have h4:(0:Int)<=(a.toNat:Int) / 2 ^ min n.toNat 8:=Int.ediv_nonneg (by omega) (by omega);unfold bShr toU8;rw[jCm];omega
section
variable {P:Program} {ρ:Operand->AV} {σ:Sto} {dst:Option Tmp} {ty:TypeId} {pos:String} {af:Array Edge} {gu:Option (Nat × Bool)} {x y:Operand} {t t' :TypeId} {a b:UInt8}
theorem wmb{op:BinOp}{r:UInt8}(hx:ρ x=.u8 a)(hy:ρ y=.u8 b)(hr:(op=.or/\r=bOr a b)∨(op=.and/\r=bAnd a b)):EvQ P ⟨dst,.binOp op t x y t',ty,pos,af,gu⟩ ρ σ (.u8 r):=
 ⟨fun c=>by simp,fun g ρv h _=>by
  obtain ⟨h1,h2⟩:=ops2 (o:=⟨dst,.binOp op t x y t',ty,pos,af,gu⟩) (x:=x) (y:=y) rfl h;rw[hx]at h1;rw[hy]at h2;have e1:=zKa h1;have e2:=zKa h2;refine ⟨.int .u8 r.toNat,?_,.pv (.b rfl)⟩;rcases hr with ⟨rfl,rfl⟩ | ⟨rfl,rfl⟩ <;> (simp[execOp,e1,e2,go_sem,eqGuard,binOp,Op.intBits];exact Yja _)⟩
theorem ev_bor(hx:ρ x=.u8 a)(hy:ρ y=.u8 b):EvQ P ⟨dst,.binOp .or t x y t',ty,pos,af,gu⟩ ρ σ (.u8 (bOr a b)):=wmb hx hy (.inl ⟨rfl,rfl⟩)
theorem ev_band(hx:ρ x=.u8 a)(hy:ρ y=.u8 b):EvQ P ⟨dst,.binOp .and t x y t',ty,pos,af,gu⟩ ρ σ (.u8 (bAnd a b)):=wmb hx hy (.inr ⟨rfl,rfl⟩)
theorem k6b{op:BinOp}{r:UInt8}{n:Int}{yk:IntKind}(hx:ρ x=.u8 a)(hy:ρ y=.pv (.b (.int yk n)))(hb:0<=n)(hr:(op=.shl/\r=bShl a n)∨(op=.shr/\r=bShr a n)):EvQ P ⟨dst,.binOp op t x y t',ty,pos,af,gu⟩ ρ σ (.u8 r):=
 ⟨fun c=>by simp,fun g ρv h _=>by
  obtain ⟨h1,h2⟩:=ops2 (o:=⟨dst,.binOp op t x y t',ty,pos,af,gu⟩) (x:=x) (y:=y) rfl h;rw[hx]at h1;rw[hy]at h2;have e1:=zKa h1;have e2:=zKa h2;refine ⟨.int .u8 r.toNat,?_,.pv (.b rfl)⟩;have hnl:¬n < 0:=by omega
  have hp:(0:Int)<=2 ^ min n.toNat 8:=Int.le_of_lt (Int.pow_pos (by decide));rcases hr with ⟨rfl,rfl⟩ | ⟨rfl,rfl⟩
  .show Sem.run P (do let v <-(do eqGuard .shl t x y (ρv x) (ρv y);binOp .shl t (ρv x) (ρv y));pure (Next.value v)) g.w=_;rw[e1,e2];simp only[eqGuard,binOp,Op.shift,if_neg hnl,IntKind.bits,Yja];rfl
  show Sem.run P (do let v <-(do eqGuard .shr t x y (ρv x) (ρv y);binOp .shr t (ρv x) (ρv y));pure (Next.value v)) g.w=_;rw[e1,e2];simp only[eqGuard,binOp,Op.shift,if_neg hnl,IntKind.bits,Int.fdiv_eq_ediv_of_nonneg _ hp,<-toU8_shr];rfl⟩
theorem ev_bshl{n:Int}{yk:IntKind}(hx:ρ x=.u8 a)(hy:ρ y=.pv (.b (.int yk n)))(hb:0<=n):EvQ P ⟨dst,.binOp .shl t x y t',ty,pos,af,gu⟩ ρ σ (.u8 (bShl a n)):=k6b hx hy hb (.inl ⟨rfl,rfl⟩)
theorem ev_bshr{n:Int}{yk:IntKind}(hx:ρ x=.u8 a)(hy:ρ y=.pv (.b (.int yk n)))(hb:0<=n):EvQ P ⟨dst,.binOp .shr t x y t',ty,pos,af,gu⟩ ρ σ (.u8 (bShr a n)):=k6b hx hy hb (.inr ⟨rfl,rfl⟩)
end
end
def escB(c:UInt8):List UInt8:=if c=92 then [92,92] else if c=34 then [92,34] else [c]
def koa(s:Str):Option Str:=if s.length<=1099511627776 then some (s.flatMap escB) else none
def Zda(a0:UInt8):Option (UInt8 × Bool):=
 ((bif decide (48<=(a0.toNat:Int)) then some (decide ((a0.toNat:Int)<=57)) else some false):Option Bool).bind fun (j1:Bool)=>(bif j1 then some (((a0 - (48:UInt8)),true)) else ((bif decide (65<=(a0.toNat:Int)) then some (decide ((a0.toNat:Int)<=70)) else some false):Option Bool).bind fun (j4:Bool)=>(bif j4 then some ((((a0 - (65:UInt8))+(10:UInt8)),true)) else ((bif decide (97<=(a0.toNat:Int)) then some (decide ((a0.toNat:Int)<=102)) else some false):Option Bool).bind fun (j7:Bool)=>(bif j7 then some ((((a0 - (97:UInt8))+(10:UInt8)),true)) else some (((0:UInt8),false)))))
def Zea(a0:Str):Option (UInt8 × Bool):=
 (bif decide ((a0.length:Int) < 2) then some (((0:UInt8),false)) else (idx a0 0).bind fun v2=>(Zda v2).bind fun v4=>(idx a0 1).bind fun v6=>(Zda v6).bind fun v8=>((bif v4.2 then some v8.2 else some false):Option Bool).bind fun (j10:Bool)=>some (((bOr ((bShl v4.1 4)) v8.1),j10)))
def kQa(j2:Str)(s13:Int × (List UInt8))(j18:Unit):Option (Int × (List UInt8)):=
 (idx j2 s13.1).bind fun v19=>(app 140737488355328 s13.2 (([v19]:List UInt8))).bind fun v21=>some ((s13.1,v21))
def vJa(j2:Str)(s13:Int × (List UInt8)):Option (Step (Int × (List UInt8)) (List UInt8)):=
 (bif decide (s13.1 < (j2.length:Int)) then ((idx j2 s13.1).bind fun v23=>(bif ((v23.toNat:Int)==37) then (cut j2 ((w64 (s13.1+1))) ((j2.length:Int))).bind fun v26=>(Zea v26).bind fun v28=>(bif v28.2 then (app 140737488355328 s13.2 (([v28.1]:List UInt8))).bind fun v31=>some (((w64 (s13.1+2)),v31)) else (kQa j2 s13 ())) else (kQa j2 s13 ())):Option (Int × (List UInt8))).bind fun (j17:Int × (List UInt8))=>some (.cont ((w64 (j17.1+1)),j17.2)) else some (.out s13.2))
def qNa(a0:zca):Option Str:=
 (bif (!a0.star) then some a0.value else (((bif (a0.number==0) then (bif decide (6<=(a0.value.length:Int)) then (cut a0.value 0 6).bind fun v6=>(kba v6 (([117,116,102,56,39,39]:Str))).bind fun v8=>some v8 else some false) else some false):Option Bool).bind fun (j3:Bool)=>(bif j3 then (cut a0.value 6 ((a0.value.length:Int))).bind fun v11=>some v11 else some a0.value):Option Str).bind fun (j2:Str)=>(iter (vJa j2) ((0,([]:List UInt8)))).bind fun b14=>some b14)
def okP(a:zca):Bool:=decide (-1<=a.number) && decide (a.number<=1099511627776)
def waa(L:List zca)(s8:Int × Str):Option (Step (Int × Str) (Str ⊕ Str)):=
 (bif decide (s8.1 < (L.length:Int)) then (idx L s8.1).bind fun v14=>(bif (v14.number !=s8.1) then some (.out (.inr s8.2)) else (qNa v14).bind fun v17=>(cat s8.2 v17).bind fun v19=>some (.cont ((w64 (s8.1+1)),v19))) else some (.out (.inl s8.2)))
def kIa(L:List zca):Option (Option Str):=
 (iter (waa L) ((0,([]:Str)))).bind (Sum.elim (fun b9=>(qEa b9 (([239,191,189]:Str))).bind fun v21=>some (some v21)) (fun _=>some none))
def Joins(l:List zca)(o:Option Str):Prop:=∀L:List zca,L.Perm l->L.Pairwise (fun a b=>a.number<=b.number)->kIa L=some o
open Classical in
def vKa(l:List zca)(nm:Str):Option (zia × Bool):=
 if h:(∀x∈l,okP x=true)/\l.length<=1048576/\∃o,Joins l o then some (match h.2.2.choose with | some v=>(zia.mk nm v,true) | none=>(zia.mk [] [],false)) else none
def w1a(a0:List zca):Option (zia × Bool):=
 (idx a0 0).bind fun v1=>(bif decide (v1.number < 0) then some (((zia.mk v1.name v1.value),((a0.length:Int)==1))) else vKa a0 v1.name)
def jres:zia × Bool->AV
 | (p,true)=>.tup [.agg [.s p.Name,.s p.Value],.bo true]
 | (_,false)=>.tup [.agg [.any,.any],.bo false]
def zBa(a0:zfa):Option zfa:=
 (vCa a0.s (([32,9]:Str))).bind fun v1=>some ((zfa.mk v1))
def z3a(a0:zfa)(a1:UInt8):Option (Bool × zfa):=
 (zBa a0).bind fun v1=>((bif (v1.s==([]:Str)) then some true else (idx v1.s 0).bind fun v5=>some (((v5.toNat:Int) !=(a1.toNat:Int)))):Option Bool).bind fun (j3:Bool)=>(bif j3 then some ((false,v1)) else (cut v1.s 1 ((v1.s.length:Int))).bind fun v8=>some ((true,(zfa.mk v8))))
def kRa(a0:UInt8):Option Bool:=
 ((bif decide (33<=(a0.toNat:Int)) then (bif decide ((a0.toNat:Int)<=126) then (zwa (([40,41,60,62,64,44,59,58,92,34,47,91,93,63,61,42,37,39]:Str)) a0).bind fun v4=>some (decide (v4 < 0)) else some false) else some false):Option Bool).bind fun (j1:Bool)=>some j1
def q3a(v4:zfa)(s6:Int):Option (Step Int Int):=
 ((bif decide (s6 < (v4.s.length:Int)) then (idx v4.s s6).bind fun v11=>((kRa v11).bind fun v14=>(bif v14 then some true else (bif ((v11.toNat:Int)==37) then some true else (bif ((v11.toNat:Int)==39) then some true else some (((v11.toNat:Int)==42))))):Option Bool).bind fun (j13:Bool)=>some j13 else some false):Option Bool).bind fun (j9:Bool)=>(bif j9 then some (.cont (w64 (s6+1))) else some (.out s6))
def ksa(j30:Int × (List UInt8)):Option (Step (Int × (List UInt8)) (Unit ⊕ (Str × Bool × zfa))):=
 some (.cont ((w64 (j30.1+1)),j30.2))
def q4a(v1:Bool × zfa)(s24:Int × (List UInt8)):Option (Step (Int × (List UInt8)) (Unit ⊕ (Str × Bool × zfa))):=
 (bif decide (s24.1 < (v1.2.s.length:Int)) then (idx v1.2.s s24.1).bind fun v31=>(bif ((v31.toNat:Int)==34) then (cut v1.2.s ((w64 (s24.1+1))) ((v1.2.s.length:Int))).bind fun v34=>some (.out (.inr ((s24.2,true,(zfa.mk v34))))) else (bif ((v31.toNat:Int)==92) then (bif ((w64 (s24.1+1))==(v1.2.s.length:Int)) then some (.out (.inr ((([]:Str),false,v1.2)))) else (idx v1.2.s ((w64 (s24.1+1)))).bind fun v38=>(app 140737488355328 s24.2 (([v38]:List UInt8))).bind fun v40=>(ksa ((w64 (s24.1+1)),v40))) else (app 140737488355328 s24.2 (([v31]:List UInt8))).bind fun v42=>(ksa (s24.1,v42)))) else some (.out (.inl (()))))
def k2a(a0:zfa):Option (Str × Bool × zfa):=
 (z3a a0 ((34:UInt8))).bind fun v1=>(bif (!v1.1) then (zBa v1.2).bind fun v4=>(iter (q3a v4) 0).bind fun b7=>(cut v4.s 0 b7).bind fun v20=>(cut v4.s b7 ((v4.s.length:Int))).bind fun v22=>some ((v20,true,(zfa.mk v22))) else (iter (q4a v1) ((0,([]:List UInt8)))).bind (Sum.elim (fun b25=>some ((([]:Str),false,v1.2))) (fun b26=>some ((b26.1,b26.2.1,b26.2.2)))))
def vja(v1:zfa)(s3:Int):Option (Step Int Int):=
 ((bif decide (s3 < (v1.s.length:Int)) then (idx v1.s s3).bind fun v8=>((kRa v8).bind fun v11=>(bif v11 then some true else some (((v8.toNat:Int)==42))):Option Bool).bind fun (j10:Bool)=>some j10 else some false):Option Bool).bind fun (j6:Bool)=>(bif j6 then some (.cont (w64 (s3+1))) else some (.out s3))
def qta(a0:zfa):Option (zca × Bool × zfa):=
 (zBa a0).bind fun v1=>(iter (vja v1) 0).bind fun b4=>(cut v1.s 0 b4).bind fun v15=>(cut v1.s b4 ((v1.s.length:Int))).bind fun v17=>(z3a ((zfa.mk v17)) ((61:UInt8))).bind fun v19=>(bif (!v19.1) then some (((zca.mk (([]:Str)) 0 false (([]:Str))),false,v19.2)) else (k2a v19.2).bind fun v22=>(k8a v15 (([42]:Str))).bind fun v24=>((bif v24.2.2 then (kma v24.2.1 (([42]:Str))).bind fun v28=>(wWa v28.1 1099511627776).bind fun v30=>(bif v22.2.1 then some ((v30.2,v30.1,v28.2)) else some ((false,v30.1,v28.2))) else some ((v22.2.1,(-1),false))):Option (Bool × Int × Bool)).bind fun (j26:Bool × Int × Bool)=>((bif j26.1 then some ((v24.1 !=([]:Str))) else some false):Option Bool).bind fun (j33:Bool)=>some (((zca.mk v24.1 j26.2.1 j26.2.2 v22.1),j33,v22.2.2)))
def jKa(v1:zfa)(s3:Int):Option (Step Int Int):=
 ((bif decide (s3 < (v1.s.length:Int)) then (idx v1.s s3).bind fun v8=>((bif decide (33<=(v8.toNat:Int)) then (bif decide ((v8.toNat:Int)<=126) then (zwa (([40,41,60,62,64,44,59,58,92,34,47,91,93,63,61,42,37,39]:Str)) v8).bind fun v13=>some (decide (v13 < 0)) else some false) else some false):Option Bool).bind fun (j10:Bool)=>some j10 else some false):Option Bool).bind fun (j6:Bool)=>(bif j6 then some (.cont (w64 (s3+1))) else some (.out s3))
def jLa(v22:zfa)(s24:Int):Option (Step Int Int):=
 ((bif decide (s24 < (v22.s.length:Int)) then (idx v22.s s24).bind fun v29=>((bif decide (33<=(v29.toNat:Int)) then (bif decide ((v29.toNat:Int)<=126) then (zwa (([40,41,60,62,64,44,59,58,92,34,47,91,93,63,61,42,37,39]:Str)) v29).bind fun v34=>some (decide (v34 < 0)) else some false) else some false):Option Bool).bind fun (j31:Bool)=>some j31 else some false):Option Bool).bind fun (j27:Bool)=>(bif j27 then some (.cont (w64 (s24+1))) else some (.out s24))
def wBa(s45:zfa × (List zca)):Option (Step (zfa × (List zca)) ((zfa × (List zca)) ⊕ Unit)):=
 (z3a s45.1 ((59:UInt8))).bind fun v50=>(bif v50.1 then (qta v50.2).bind fun v53=>(bif (!v53.2.1) then some (.out (.inr (()))) else (app 2932031007402 s45.2 (([v53.1]:List zca))).bind fun v56=>some (.cont (v53.2.2,v56))) else some (.out (.inl ((v50.2,s45.2)))))
def vwa(s61:Int × (List zia))(j67:List zia):Option (Step (Int × (List zia)) ((List zia) ⊕ Unit)):=
 some (.cont ((w64 (s61.1+1)),j67))
def wCa(v68:zca)(v70:List zca)(s73:Int):Option (Step Int (Unit ⊕ Int)):=
 (bif decide (s73 < (v70.length:Int)) then (idx v70 s73).bind fun v79=>(kba v79.name v68.name).bind fun v81=>(bif v81 then some (.out (.inr s73)) else some (.cont (w64 (s73+1)))) else some (.out (.inl (()))))
def wDa(b46:zfa × (List zca))(v68:zca)(s86:Int × (List zca)):Option (Step (Int × (List zca)) (List zca)):=
 (bif decide (s86.1 < (b46.2.length:Int)) then ((idx b46.2 s86.1).bind fun v91=>(kba v91.name v68.name).bind fun v93=>(bif v93 then (app 2932031007402 s86.2 (([v91]:List zca))).bind fun v96=>some v96 else some s86.2):Option (List zca)).bind fun (j90:List zca)=>some (.cont ((w64 (s86.1+1)),j90)) else some (.out s86.2))
def wEa(b46:zfa × (List zca))(s61:Int × (List zia)):Option (Step (Int × (List zia)) ((List zia) ⊕ Unit)):=
 (bif decide (s61.1 < (b46.2.length:Int)) then (idx b46.2 s61.1).bind fun v68=>(cut b46.2 0 s61.1).bind fun v70=>((iter (wCa v68 v70) 0).bind (Sum.elim (fun b74=>some ((-1))) (fun b75=>some b75)):Option Int).bind fun (j72:Int)=>(bif decide (0<=j72) then (vwa s61 s61.2) else (iter (wDa b46 v68) ((0,([]:List zca)))).bind fun b87=>(w1a b87).bind fun v98=>(bif (!v98.2) then some (.out (.inr (()))) else (app 4398046511104 s61.2 (([(zia.mk v68.name v98.1.Value)]:List zia))).bind fun v101=>(vwa s61 v101))) else some (.out (.inl s61.2)))
def yZa(a0:Str):Option (zYa × Bool):=
 (zBa ((zfa.mk a0))).bind fun v1=>(iter (jKa v1) 0).bind fun b4=>(cut v1.s 0 b4).bind fun v16=>(cut v1.s b4 ((v1.s.length:Int))).bind fun v18=>(z3a ((zfa.mk v18)) ((47:UInt8))).bind fun v20=>(zBa v20.2).bind fun v22=>(iter (jLa v22) 0).bind fun b25=>(cut v22.s 0 b25).bind fun v37=>(cut v22.s b25 ((v22.s.length:Int))).bind fun v39=>((bif (v16==([]:Str)) then some true else (bif (!v20.1) then some true else some ((v37==([]:Str))))):Option Bool).bind fun (j41:Bool)=>(bif j41 then some (((zYa.mk v16 v37 (([]:List zia))),false)) else (iter (wBa) (((zfa.mk v39),([]:List zca)))).bind (Sum.elim (fun b46=>(zBa b46.1).bind fun v58=>(iter (wEa b46) ((0,([]:List zia)))).bind (Sum.elim (fun b62=>some (((zYa.mk v16 v37 b62),(v58.s==([]:Str))))) (fun b63=>some (((zYa.mk v16 v37 (([]:List zia))),false))))) (fun b47=>some (((zYa.mk v16 v37 (([]:List zia))),false)))))
def jMa(a0:Str)(s5:Int):Option (Step Int (Unit ⊕ Unit)):=
 (bif decide (s5 < (a0.length:Int)) then (idx a0 s5).bind fun v11=>((bif decide (33<=(v11.toNat:Int)) then (bif decide ((v11.toNat:Int)<=126) then (zwa (([40,41,60,62,64,44,59,58,92,34,47,91,93,63,61,42,37,39]:Str)) v11).bind fun v16=>some (decide (v16 < 0)) else some false) else some false):Option Bool).bind fun (j13:Bool)=>(bif (!j13) then some (.out (.inr (()))) else some (.cont (w64 (s5+1)))) else some (.out (.inl (()))))
def q5a(a0:Str):Option Bool:=
 ((bif (a0 !=([]:Str)) then (bif decide ((a0.length:Int)<=60) then ((iter (jMa a0) 0).bind (Sum.elim (fun b6=>some true) (fun b7=>some false)):Option Bool).bind fun (j4:Bool)=>some j4 else some false) else some false):Option Bool).bind fun (j1:Bool)=>some j1
def wta(v19:zia)(v28:List zia)(s31:Int):Option (Step Int (Unit ⊕ Int)):=
 (bif decide (s31 < (v28.length:Int)) then (idx v28 s31).bind fun v37=>(kba v37.Name v19.Name).bind fun v39=>(bif v39 then some (.out (.inr s31)) else some (.cont (w64 (s31+1)))) else some (.out (.inl (()))))
def wua(a0:zYa)(s13:Int):Option (Step Int (Unit ⊕ zja)):=
 (bif decide (s13 < (a0.Params.length:Int)) then (idx a0.Params s13).bind fun v19=>((q5a v19.Name).bind fun v22=>(bif (!v22) then some true else some (decide (20 < (v19.Name.length:Int)))):Option Bool).bind fun (j21:Bool)=>(bif j21 then (zla 10 s13).bind fun v26=>some (.out (.inr v26)) else (cut a0.Params 0 s13).bind fun v28=>((iter (wta v19 v28) 0).bind (Sum.elim (fun b32=>some ((-1))) (fun b33=>some b33)):Option Int).bind fun (j30:Int)=>(bif decide (0<=j30) then (zla 7 s13).bind fun v43=>some (.out (.inr v43)) else (bif decide (500 < (v19.Value.length:Int)) then (zla 1 s13).bind fun v46=>some (.out (.inr v46)) else (kva v19.Value).bind fun v48=>(bif (!v48) then (zla 5 s13).bind fun v51=>some (.out (.inr v51)) else some (.cont (w64 (s13+1))))))) else some (.out (.inl (()))))
def qaa(a0:zYa):Option zja:=
 ((q5a a0.Type_).bind fun v2=>(bif (!v2) then some true else (q5a a0.Sub).bind fun v5=>some ((!v5))):Option Bool).bind fun (j1:Bool)=>(bif j1 then (zla 10 ((-2))).bind fun v8=>some v8 else (bif decide (60 < (a0.Params.length:Int)) then (zla 2 ((-3))).bind fun v11=>some v11 else (iter (wua a0) 0).bind (Sum.elim (fun b14=>(zva).bind fun v53=>some v53) (fun b15=>some b15))))
def y0a(a0:Str):Option (zYa × zja):=
 (bif decide (4000 < (a0.length:Int)) then (zla 1 ((-1))).bind fun v2=>some (((zYa.mk (([]:Str)) (([]:Str)) (([]:List zia))),v2)) else (yZa a0).bind fun v4=>(bif (!v4.2) then (zla 11 ((-5))).bind fun v7=>some (((zYa.mk (([]:Str)) (([]:Str)) (([]:List zia))),v7)) else (qaa v4.1).bind fun v9=>(zna v9).bind fun v11=>(bif v11 then (zla v9.Code ((-6))).bind fun v14=>some (((zYa.mk (([]:Str)) (([]:Str)) (([]:List zia))),v14)) else (zva).bind fun v16=>some ((v4.1,v16)))))
def wba(s1:Int × Int)(j7:Int):Option (Step (Int × Int) (Int ⊕ Unit)):=
 some (.cont (j7,(w64 (s1.2+1))))
def ZFa(a0:List zba)(s1:Int × Int):Option (Step (Int × Int) (Int ⊕ Unit)):=
 (bif decide (s1.2 < (a0.length:Int)) then (idx a0 s1.2).bind fun v8=>(kba v8.Name (([67,111,110,116,101,110,116,45,84,121,112,101]:Str))).bind fun v10=>(bif v10 then (bif decide (0<=s1.1) then some (.out (.inr (()))) else (wba s1 s1.2)) else (wba s1 s1.1)) else some (.out (.inl s1.1)))
def qua(a0:List zba):Option (zYa × Int × Bool):=
 (iter (ZFa a0) (((-1),0))).bind (Sum.elim (fun b2=>(bif decide (b2 < 0) then some (((zYa.mk (([]:Str)) (([]:Str)) (([]:List zia))),0,false)) else (idx a0 b2).bind fun v15=>(y0a v15.Value).bind fun v17=>(zna v17.2).bind fun v19=>some ((v17.1,b2,(!v19))))) (fun b3=>some (((zYa.mk (([]:Str)) (([]:Str)) (([]:List zia))),0,false))))
def wva(a0:UInt8):Option UInt8:=
 (idx (([48,49,50,51,52,53,54,55,56,57,65,66,67,68,69,70]:Str)) ((((bAnd a0 ((15:UInt8)))).toNat:Int))).bind fun v1=>some v1
def y1a(a0:Str)(s1:Int × (List Str)):Option (Step (Int × (List Str)) (List Str)):=
 (bif decide (s1.1 < (a0.length:Int)) then ((cut a0 s1.1 ((w64 (s1.1+1)))).bind fun v6=>((idx a0 s1.1).bind fun v9=>(kRa v9).bind fun v11=>(bif (!v11) then (idx a0 s1.1).bind fun v14=>(wva ((bShr v14 4))).bind fun v16=>(idx a0 s1.1).bind fun v18=>(wva v18).bind fun v20=>some (([(37:UInt8),v16,v20]:List UInt8)) else some v6):Option Str).bind fun (j8:Str)=>(idx s1.2 ((w64 ((s1.2.length:Int) - 1)))).bind fun v22=>(idx s1.2 ((w64 ((s1.2.length:Int) - 1)))).bind fun v24=>(bif decide ((w64 ((v24.length:Int)+(j8.length:Int)))<=60) then (idx s1.2 ((w64 ((s1.2.length:Int) - 1)))).bind fun v27=>(idx s1.2 ((w64 ((s1.2.length:Int) - 1)))).bind fun v29=>(cat v29 j8).bind fun v31=>(idx s1.2 ((w64 ((s1.2.length:Int) - 1)))).bind fun v33=>(idx s1.2 ((w64 ((s1.2.length:Int) - 1)))).bind fun v35=>some ((List.set s1.2 (Int.toNat ((w64 ((s1.2.length:Int) - 1)))) v31)) else (app 8796093022208 s1.2 (([j8]:List Str))).bind fun v37=>some v37):Option (List Str)).bind fun (j5:List Str)=>some (.cont ((w64 (s1.1+1)),j5)) else some (.out s1.2))
def w2a(a0:Str):Option (List Str):=
 (iter (y1a a0) ((0,([([117,116,102,56,39,39]:Str)]:List Str)))).bind fun b2=>some b2
def QGa(a0:zia)(s13:Int):Option (Step Int (Unit ⊕ Unit)):=
 (bif decide (s13 < (a0.Value.length:Int)) then (idx a0.Value s13).bind fun v19=>((bif decide (32<=(v19.toNat:Int)) then some (decide ((v19.toNat:Int)<=126)) else some false):Option Bool).bind fun (j21:Bool)=>(bif (!j21) then some (.out (.inr (()))) else some (.cont (w64 (s13+1)))) else some (.out (.inl (()))))
def jNa(a0:zia)(v35:List Str)(s37:Str × Int):Option (Step (Str × Int) Str):=
 (bif decide (s37.2 < (v35.length:Int)) then (idx v35 s37.2).bind fun v41=>(cat (([59,32]:Str)) a0.Name).bind fun v43=>(cat v43 (([42]:Str))).bind fun v45=>(zJa s37.2).bind fun v47=>(cat v45 v47).bind fun v49=>(cat v49 (([42,61]:Str))).bind fun v51=>(cat v51 v41).bind fun v53=>(cat s37.1 v53).bind fun v55=>some (.cont (v55,(w64 (s37.2+1)))) else some (.out s37.1))
def y2a(a0:zia):Option Str:=
 (q5a a0.Value).bind fun v1=>(bif v1 then (cat (([59,32]:Str)) a0.Name).bind fun v4=>(cat v4 (([61]:Str))).bind fun v6=>(cat v6 a0.Value).bind fun v8=>some v8 else ((bif decide ((a0.Value.length:Int)<=60) then ((iter (QGa a0) 0).bind (Sum.elim (fun b14=>some true) (fun b15=>some false)):Option Bool).bind fun (j12:Bool)=>some j12 else some false):Option Bool).bind fun (j10:Bool)=>(bif j10 then (cat (([59,32]:Str)) a0.Name).bind fun v25=>(cat v25 (([61,34]:Str))).bind fun v27=>(koa a0.Value).bind fun v29=>(cat v27 v29).bind fun v31=>(cat v31 (([34]:Str))).bind fun v33=>some v33 else (w2a a0.Value).bind fun v35=>(iter (jNa a0 v35) ((([]:Str),0))).bind fun b38=>some b38))
def jOa(a0:zYa)(s10:Str × Int):Option (Step (Str × Int) Str):=
 (bif decide (s10.2 < (a0.Params.length:Int)) then (idx a0.Params s10.2).bind fun v14=>(y2a v14).bind fun v16=>(cat s10.1 v16).bind fun v18=>some (.cont (v18,(w64 (s10.2+1)))) else some (.out s10.1))
def vLa(a0:zYa):Option (Str × zja):=
 (qaa a0).bind fun v1=>(zna v1).bind fun v3=>(bif v3 then some ((([]:Str),v1)) else (cat a0.Type_ (([47]:Str))).bind fun v6=>(cat v6 a0.Sub).bind fun v8=>(iter (jOa a0) ((v8,0))).bind fun b11=>(bif decide (4000 < (b11.length:Int)) then (zla 1 ((-4))).bind fun v21=>some ((([]:Str),v21)) else (zva).bind fun v23=>some ((b11,v23))))
def ypa(v1:zYa × Int × Bool)(s5:Int):Option (Step Int (Unit ⊕ Int)):=
 (bif decide (s5 < (v1.1.Params.length:Int)) then (idx v1.1.Params s5).bind fun v11=>(idx v1.1.Params s5).bind fun v13=>(kba v13.Name (([98,111,117,110,100,97,114,121]:Str))).bind fun v15=>(bif v15 then some (.out (.inr s5)) else some (.cont (w64 (s5+1)))) else some (.out (.inl (()))))
def yqa(s19:Int × Int × (List zia)):Option (Step (Int × Int × (List zia)) (Int × (List zia))):=
 (bif decide (s19.2.1 < (s19.2.2.length:Int)) then ((idx s19.2.2 s19.2.1).bind fun v24=>(idx s19.2.2 s19.2.1).bind fun v26=>(kba v26.Name (([98,111,117,110,100,97,114,121]:Str))).bind fun v28=>(bif (!v28) then (idx s19.2.2 s19.1).bind fun v31=>(idx s19.2.2 s19.1).bind fun v33=>some (((w64 (s19.1+1)),(List.set s19.2.2 (Int.toNat s19.1) v26))) else some ((s19.1,s19.2.2))):Option (Int × (List zia))).bind fun (j23:Int × (List zia))=>some (.cont (j23.1,(w64 (s19.2.1+1)),j23.2)) else some (.out ((s19.1,s19.2.2))))
def Zfa(a0:List zba):Option ((List zba) × Bool):=
 (qua a0).bind fun v1=>(((iter (ypa v1) 0).bind (Sum.elim (fun b6=>some ((-1))) (fun b7=>some b7)):Option Int).bind fun (j4:Int)=>(bif (j4==(-1)) then some v1.1.Params else (iter (yqa) ((j4,(w64 (j4+1)),v1.1.Params))).bind fun b20=>(cut b20.2 b20.1 (b20.2.length:Int)).bind fun v35=>(cut ((clr0 b20.2 (Int.toNat b20.1) ((zia.mk (([]:Str)) (([]:Str)))))) 0 b20.1).bind fun v37=>some v37):Option (List zia)).bind fun (j3:List zia)=>(vLa ((zYa.mk v1.1.Type_ v1.1.Sub j3))).bind fun v39=>(zna v39.2).bind fun v41=>(bif v41 then some (([],false)) else (zqa a0).bind fun v44=>(idx v44 v1.2.1).bind fun v46=>(idx v44 v1.2.1).bind fun v48=>some (((List.set v44 (Int.toNat v1.2.1) ((zba.mk v48.Name v39.1))),true)))
def jPa(a0:zYa)(a1:Str)(s6:Int):Option (Step Int (Unit ⊕ (Str × Bool × zja))):=
 (bif decide (s6 < (a0.Params.length:Int)) then (idx a0.Params s6).bind fun v12=>(kba v12.Name a1).bind fun v14=>(bif v14 then (zva).bind fun v17=>some (.out (.inr ((v12.Value,true,v17)))) else some (.cont (w64 (s6+1)))) else some (.out (.inl (()))))
def wwa(a0:zYa)(a1:Str):Option (Str × Bool × zja):=
 (qaa a0).bind fun v1=>(zna v1).bind fun v3=>(bif v3 then some ((([]:Str),false,v1)) else (iter (jPa a0 a1) 0).bind (Sum.elim (fun b7=>(zva).bind fun v19=>some ((([]:Str),false,v19))) (fun b8=>some ((b8.1,b8.2.1,b8.2.2)))))
def Zga(v8:Str × Bool × zja)(s14:Int):Option (Step Int (Unit ⊕ Unit)):=
 (bif decide (s14 < (v8.1.length:Int)) then (idx v8.1 s14).bind fun v20=>((bif decide (32<=(v20.toNat:Int)) then some (decide ((v20.toNat:Int)<=126)) else some false):Option Bool).bind fun (j22:Bool)=>(bif (!j22) then some (.out (.inr (()))) else some (.cont (w64 (s14+1)))) else some (.out (.inl (()))))
def vxa(a0:List zba):Option (Str × Bool):=
 (qua a0).bind fun v1=>((bif (!v1.2.2) then some true else (kba v1.1.Type_ (([109,117,108,116,105,112,97,114,116]:Str))).bind fun v5=>some ((!v5))):Option Bool).bind fun (j3:Bool)=>(bif j3 then some ((([]:Str),false)) else (wwa v1.1 (([98,111,117,110,100,97,114,121]:Str))).bind fun v8=>((bif (v8.1 !=([]:Str)) then (bif decide ((v8.1.length:Int)<=60) then ((iter (Zga v8) 0).bind (Sum.elim (fun b15=>some true) (fun b16=>some false)):Option Bool).bind fun (j13:Bool)=>(bif j13 then (zPa v8.1 (([32]:Str))).bind fun v26=>some ((!v26)) else some false) else some false) else some false):Option Bool).bind fun (j10:Bool)=>((bif v8.2.1 then some j10 else some false):Option Bool).bind fun (j28:Bool)=>some ((v8.1,j28)))
def Zha(a0:Str)(a1:Str):Option Int:=
 (kna a0 (([32,9]:Str))).bind fun v1=>(cat (([45,45]:Str)) a1).bind fun v3=>(bif (v1==v3) then some 1 else (cat (([45,45]:Str)) a1).bind fun v6=>(cat v6 (([45,45]:Str))).bind fun v8=>(bif (v1==v8) then some 2 else some 0))
def wca(a0:List UInt8)(a1:Str)(s1:Int × Int × (List (List UInt8))):Option (Step (Int × Int × (List (List UInt8))) ((Int × (List (List UInt8))) ⊕ (Int × (List (List UInt8)) × (List (List UInt8))))):=
 (bif decide (s1.1 < (a0.length:Int)) then (cut a0 s1.1 ((a0.length:Int))).bind fun v7=>(yKa v7 (([(13:UInt8),(10:UInt8)]:List UInt8))).bind fun v9=>((bif decide (0<=v9) then some (((w64 (s1.1+v9)),(w64 ((w64 (s1.1+v9))+2)))) else some (((a0.length:Int),(a0.length:Int)))):Option (Int × Int)).bind fun (j11:Int × Int)=>(cut a0 s1.1 j11.1).bind fun v13=>(Zha v13 a1).bind fun v15=>(bif (v15==0) then some (.cont (j11.2,s1.2.1,s1.2.2)) else ((bif decide (0<=s1.2.1) then (cut a0 s1.2.1 ((max s1.2.1 ((w64 (s1.1 - 2)))))).bind fun v20=>(app 5864062014805 s1.2.2 (([v20]:List (List UInt8)))).bind fun v22=>some v22 else some s1.2.2):Option (List (List UInt8))).bind fun (j18:List (List UInt8))=>(bif (v15==2) then some (.out (.inr ((s1.2.1,j18,j18)))) else some (.cont (j11.2,(min ((w64 ((w64 (s1.1+(v13.length:Int)))+2))) ((a0.length:Int))),j18)))) else some (.out (.inl ((s1.2.1,s1.2.2)))))
def q6a(a0:List UInt8)(a1:Str):Option (List (List UInt8)):=
 (iter (wca a0 a1) ((0,(-1),([]:List (List UInt8))))).bind (Sum.elim (fun b2=>((bif decide (0<=b2.1) then (cut a0 b2.1 ((a0.length:Int))).bind fun v27=>(app 5864062014805 b2.2 (([v27]:List (List UInt8)))).bind fun v29=>some v29 else some b2.2):Option (List (List UInt8))).bind fun (j25:List (List UInt8))=>some j25) (fun b3=>some b3.2.2))
def wxa(a0:List zba)(a1:List UInt8)(a2:Int):Option (List (List UInt8)):=
 (vxa a0).bind fun v1=>((bif (!v1.2) then some true else some (decide (8<=a2))):Option Bool).bind fun (j3:Bool)=>(bif j3 then some ([]) else (q6a a1 v1.1).bind fun v6=>some v6)
def ZGa(rd:zea->List UInt8->Int->Option (zka × Bool × zea))(a3:Int)(v5:List (List UInt8))(s11:Int × zea × (List zka)):Option (Step (Int × zea × (List zka)) ((zea × (List zka)) ⊕ zea)):=
 (bif decide (s11.1 < (v5.length:Int)) then (idx v5 s11.1).bind fun v17=>(rd s11.2.1 v17 ((w64 (a3+1)))).bind fun v19=>(bif (!v19.2.1) then some (.out (.inr v19.2.2)) else (app 1954687338268 s11.2.2 (([v19.1]:List zka))).bind fun v22=>some (.cont ((w64 (s11.1+1)),v19.2.2,v22))) else some (.out (.inl ((s11.2.1,s11.2.2)))))
def yAa(rd:zea->List UInt8->Int->Option (zka × Bool × zea))(a0:zea)(a1:List zba)(a2:List UInt8)(a3:Int):Option (zka × Bool × zea):=
 (zqa a1).bind fun v1=>(kja a2).bind fun v3=>(wxa a1 a2 a3).bind fun v5=>(bif ((v5.length:Int)==0) then some (((zka.mk v1 v3 (([]:List zka))),true,(zea.mk ((w64 (a0.many+1))) a0.fault))) else (Zfa a1).bind fun v8=>(bif (!v8.2) then some (((zka.mk v1 v3 (([]:List zka))),true,(zea.mk ((w64 (a0.many+1))) a0.fault))) else (iter (ZGa rd a3 v5) ((0,(zea.mk ((w64 (a0.many+1))) a0.fault),([]:List zka)))).bind (Sum.elim (fun b12=>some (((zka.mk v8.1 ([]) b12.2),true,b12.1))) (fun b13=>some (((zka.mk ([]) ([]) ([])),false,b13))))))
def yBa(pt:zea->List zba->List UInt8->Int->Option (zka × Bool × zea))(a0:zea)(a1:List UInt8)(a2:Int):Option (zka × Bool × zea):=
 (vIa a1).bind fun v1=>(zna v1.2.2).bind fun v3=>(bif v3 then (zla v1.2.2.Code ((-8))).bind fun v6=>some (((zka.mk ([]) ([]) ([])),false,(zea.mk a0.many v6))) else (bif (a0.many==40) then (zla 2 ((-7))).bind fun v9=>some (((zka.mk ([]) ([]) ([])),false,(zea.mk a0.many v9))) else (cut a1 v1.2.1 ((a1.length:Int))).bind fun v11=>(pt a0 v1.1 v11 a2).bind fun v13=>some ((v13.1,v13.2.1,v13.2.2))))
def Qga:Nat->zea->List zba->List UInt8->Int->Option (zka × Bool × zea)
 | 0=>yAa fun _ _ _=>none
 | n+1=>yAa (yBa (Qga n))
def wla(a0:zea)(a1:List zba)(a2:List UInt8)(a3:Int):Option (zka × Bool × zea):=Qga 8 a0 a1 a2 a3
def zea.sto(x:zea):Sto:=[(90007000,.cells [.i x.many,.i x.fault.Code,.i x.fault.Index])]
def zka.cw(e3:zka->List (List PV))(x:zka):List PV:=[pL zba.pc x.Fields,pL cU x.Body,.sl none (e3 x)]
def y3a(a0:zka):Option Int:=
 (qua a0.Fields).bind fun v1=>((bif decide (0 < (a0.Body.length:Int)) then some true else (bif (!v1.2.2) then some true else (kba v1.1.Type_ (([109,117,108,116,105,112,97,114,116]:Str))).bind fun v6=>some ((!v6)))):Option Bool).bind fun (j3:Bool)=>(bif j3 then some 5 else (wwa v1.1 (([98,111,117,110,100,97,114,121]:Str))).bind fun v9=>(vLa v1.1).bind fun v11=>((bif v9.2.1 then some true else (bif decide (60<=(v1.1.Params.length:Int)) then some true else (zna v11.2).bind fun v16=>(bif v16 then some true else (idx a0.Fields v1.2.1).bind fun v19=>(bif (v11.1 !=v19.Value) then some true else some (decide (2000 < (v11.1.length:Int))))))):Option Bool).bind fun (j13:Bool)=>(bif j13 then some 5 else some 0))
def y4a(a0:jBa):Option Int:=
 (kOa a0.part.Fields).bind fun v1=>(zna v1).bind fun v3=>(bif v3 then some v1.Code else (bif decide (0 < (a0.part.Parts.length:Int)) then (y3a a0.part).bind fun v7=>some v7 else (bif decide (12000 < (a0.part.Body.length:Int)) then some 1 else (yxa a0.part.Body).bind fun v10=>(bif (v10 !=0) then some v10 else (wxa a0.part.Fields a0.part.Body a0.depth).bind fun v13=>(bif decide (0 < (v13.length:Int)) then some 5 else some 0)))))
def pv1_l(rd:zka->Int->Int × Bool->Option ((Int × Bool) ⊕ (Int × Bool × Int × Int)))(p:zka)(d:Int)(s:Int × Int × Bool):Option (Step (Int × Int × Bool) ((Int × Bool) ⊕ (Int × Bool × Int × Int))):=
 (bif decide (s.1 < (p.Parts.length:Int)) then (idx p.Parts s.1).bind fun v7=>(rd v7 (w64 (d+1)) s.2).bind fun v9=>Sum.elim (fun b=>some (.cont (w64 (s.1+1),b))) (fun b=>some (.out (.inr b))) v9 else some (.out (.inl s.2)))
def pv1(rd:zka->Int->Int × Bool->Option ((Int × Bool) ⊕ (Int × Bool × Int × Int)))(p:zka)(d:Int)(s:Int × Bool):Option ((Int × Bool) ⊕ (Int × Bool × Int × Int)):=
 (bif decide (40<=s.1) then (zla 2 ((-1))).bind fun v10=>some (.inr (s.1,s.2,v10.Code,v10.Index)) else ((bif s.2 then some true else some (decide (8 < d))):Option Bool).bind fun (j12:Bool)=>(iter (pv1_l rd p d) ((0,(w64 (s.1+1)),j12))).bind (Sum.elim (fun b=>some (.inl b)) (fun b=>some (.inr b))))
def pv2_l(rd:zka->Int->Int->Option (Int ⊕ (Int × Int × Int)))(p:zka)(d:Int)(s:Int × Int):Option (Step (Int × Int) (Int ⊕ (Int × Int × Int))):=
 (bif decide (s.1 < (p.Parts.length:Int)) then (idx p.Parts s.1).bind fun v7=>(rd v7 (w64 (d+1)) s.2).bind fun v9=>Sum.elim (fun b=>some (.cont (w64 (s.1+1),b))) (fun b=>some (.out (.inr b))) v9 else some (.out (.inl s.2)))
def pv2(rd:zka->Int->Int->Option (Int ⊕ (Int × Int × Int)))(p:zka)(d:Int)(s:Int):Option (Int ⊕ (Int × Int × Int)):=
 (y4a (jBa.mk p d)).bind fun v21=>(bif (v21 !=0) then (zla v21 s).bind fun v24=>some (.inr (s,v24.Code,v24.Index)) else (iter (pv2_l rd p d) ((0,(w64 (s+1))))).bind (Sum.elim (fun b=>some (.inl b)) (fun b=>some (.inr b))))
def pvl1:Nat->zka->Int->Int × Bool->Option ((Int × Bool) ⊕ (Int × Bool × Int × Int))
 | 0,p=>pv1 (fun _ _ _=>none) (zka.mk p.Fields p.Body [])
 | n+1,p=>pv1 (pvl1 n) p
def pvl2:Nat->zka->Int->Int->Option (Int ⊕ (Int × Int × Int))
 | 0,p=>pv2 (fun _ _ _=>none) (zka.mk p.Fields p.Body [])
 | n+1,p=>pv2 (pvl2 n) p
def kJa(n:Nat)(a0:zka):Option zja:=
 (pvl1 (n+1) a0 0 (0,false)).bind fun v5=>Sum.elim (fun b=>(bif b.2 then (zla 2 ((-2))).bind fun v19=>some v19 else (pvl2 (n+1) a0 0 0).bind fun v20=>Sum.elim (fun _=>(zva).bind fun v21=>some v21) (fun b=>some (zja.mk b.2.1 b.2.2)) v20)) (fun b=>some (zja.mk b.2.2.1 b.2.2.2)) v5
def Zia(a0:zka):Option zja:=kJa 8 a0
def Zja(a0:zka):Option zja:=kJa 0 a0
def Ev:Nat->zka->List (List PV)
 | 0,_=>[]
 | n+1,p=>p.Parts.map (zka.cw (Ev n))
def qba(a0:zda):Option (zka × zja):=
 (zOa a0).bind fun v1=>(zna v1).bind fun v3=>(bif v3 then some (((zka.mk ([]) ([]) ([])),v1)) else (wla ((zea.mk 0 ((zja.mk 0 0)))) a0.Fields a0.Body 0).bind fun v6=>(bif (!v6.2.1) then some (((zka.mk ([]) ([]) ([])),v6.2.2.fault)) else (Zia v6.1).bind fun v9=>(zna v9).bind fun v11=>(bif v11 then (zla v9.Code ((-9))).bind fun v14=>some (((zka.mk ([]) ([]) ([])),v14)) else (zva).bind fun v16=>some ((v6.1,v16)))))
def qFa(a0:List zba)(a1:Str)(a2:Str):Option Bool:=
 (j5a a0 a1).bind fun v1=>((bif ((v1.1.length:Int)==1) then (idx v1.1 0).bind fun v5=>some ((v5==a2)) else some false):Option Bool).bind fun (j3:Bool)=>some j3
def y5a(a0:zka):Option (zda × Bool):=
 ((bif decide (0 < (a0.Parts.length:Int)) then some true else (qFa a0.Fields (([67,111,110,116,101,110,116,45,84,121,112,101]:Str)) (([109,101,115,115,97,103,101,47,105,116,101,109]:Str))).bind fun v3=>some ((!v3))):Option Bool).bind fun (j1:Bool)=>(bif j1 then some (((zda.mk ([]) ([])),false)) else (wYa a0.Body).bind fun v6=>(zna v6.2).bind fun v8=>(bif v8 then some (((zda.mk ([]) ([])),false)) else (qDa v6.1).bind fun v11=>((zna v11.2).bind fun v14=>(bif (!v14) then (qza v11.1 a0.Body).bind fun v17=>some v17 else some false):Option Bool).bind fun (j13:Bool)=>some ((v6.1,j13))))
def wFa(v6:zka × zja)(s24:Int × (List zda)):Option (Step (Int × (List zda)) ((List zda) ⊕ ((List zda) × Bool × zja))):=
 (bif decide (s24.1 < (v6.1.Parts.length:Int)) then (idx v6.1.Parts s24.1).bind fun v30=>(y5a v30).bind fun v32=>(bif (!v32.2) then (zva).bind fun v35=>some (.out (.inr (([],false,v35)))) else (app 2932031007402 s24.2 (([v32.1]:List zda))).bind fun v37=>some (.cont ((w64 (s24.1+1)),v37))) else some (.out (.inl s24.2)))
def q7a(a0:zda):Option ((List zda) × Bool × zja):=
 (zOa a0).bind fun v1=>(zna v1).bind fun v3=>(bif v3 then some (([],false,v1)) else (qba a0).bind fun v6=>((zna v6.2).bind fun v9=>(bif v9 then some true else (bif decide ((v6.1.Parts.length:Int) < 1) then some true else (bif decide (20 < (v6.1.Parts.length:Int)) then some true else (qFa v6.1.Fields (([67,111,110,116,101,110,116,45,84,121,112,101]:Str)) (([109,117,108,116,105,112,97,114,116,47,100,105,103,101,115,116]:Str))).bind fun v14=>(bif (!v14) then some true else (zJa ((v6.1.Parts.length:Int))).bind fun v17=>(qFa v6.1.Fields (([88,45,68,105,103,101,115,116]:Str)) v17).bind fun v19=>some ((!v19)))))):Option Bool).bind fun (j8:Bool)=>(bif j8 then (zva).bind fun v22=>some (([],false,v22)) else (iter (wFa v6) ((0,([]:List zda)))).bind (Sum.elim (fun b25=>(zva).bind fun v39=>some ((b25,true,v39))) (fun b26=>some ((b26.1,b26.2.1,b26.2.2))))))
def Kva(a0:List zda)(s6:Int):Option (Step Int (Unit ⊕ zja)):=
 (bif decide (s6 < (a0.length:Int)) then (idx a0 s6).bind fun v12=>(zOa v12).bind fun v14=>(zna v14).bind fun v16=>(bif v16 then (zla v14.Code s6).bind fun v19=>some (.out (.inr v19)) else some (.cont (w64 (s6+1)))) else some (.out (.inl (()))))
def jsa(a0:List zda):Option zja:=
 ((bif decide ((a0.length:Int) < 1) then some true else some (decide (20 < (a0.length:Int)))):Option Bool).bind fun (j1:Bool)=>(bif j1 then (zla 2 ((-20))).bind fun v4=>some v4 else (iter (Kva a0) 0).bind (Sum.elim (fun b7=>(zva).bind fun v21=>some v21) (fun b8=>some b8)))
def y6a(a0:zka):Option ((List zba) × (List UInt8)):=
 some ((a0.Fields,a0.Body))
def QHa(v7:(List Str) × zja)(s9:Int × (List UInt8)):Option (Step (Int × (List UInt8)) (List UInt8)):=
 (bif decide (s9.1 < (v7.1.length:Int)) then (idx v7.1 s9.1).bind fun v13=>(app 140737488355328 s9.2 v13).bind fun v15=>(app 140737488355328 v15 (([(13:UInt8),(10:UInt8)]:List UInt8))).bind fun v17=>some (.cont ((w64 (s9.1+1)),v17)) else some (.out s9.2))
def QIa(a0:List zba)(s1:Int × (List UInt8)):Option (Step (Int × (List UInt8)) (List UInt8)):=
 (bif decide (s1.1 < (a0.length:Int)) then (idx a0 s1.1).bind fun v5=>(wQa v5.Name v5.Value).bind fun v7=>(iter (QHa v7) ((0,s1.2))).bind fun b10=>some (.cont ((w64 (s1.1+1)),b10)) else some (.out s1.2))
def QVa(a0:List zba)(a1:List UInt8):Option (List UInt8):=
 (iter (QIa a0) ((0,([]:List UInt8)))).bind fun b2=>(app 140737488355328 b2 (([(13:UInt8),(10:UInt8)]:List UInt8))).bind fun v19=>(app 140737488355328 v19 a1).bind fun v21=>some v21
def Kwa(a0:List UInt8)(c0_0:Str)(s1:Int):Option (Step Int (Unit ⊕ Unit)):=
 (bif decide (s1 < (a0.length:Int)) then (cut a0 s1 ((a0.length:Int))).bind fun v7=>(yKa v7 (([(13:UInt8),(10:UInt8)]:List UInt8))).bind fun v9=>((bif decide (0<=v9) then some (((w64 (s1+v9)),(w64 ((w64 (s1+v9))+2)))) else some (((a0.length:Int),(a0.length:Int)))):Option (Int × Int)).bind fun (j11:Int × Int)=>(cut a0 s1 j11.1).bind fun v13=>(cat (([45,45]:Str)) c0_0).bind fun v15=>(kGa v13 v15).bind fun v17=>(bif v17 then some (.out (.inr (()))) else some (.cont j11.2)) else some (.out (.inl (()))))
def Kxa(a0:List UInt8)(c0_0:Str):Option Bool:=
 (iter (Kwa a0 c0_0) 0).bind (Sum.elim (fun b2=>some false) (fun b3=>some true))
def Vwa(a0:List (List UInt8))(v6:Str)(s9:Int):Option (Step Int (Unit ⊕ Int)):=
 (bif decide (s9 < (a0.length:Int)) then (idx a0 s9).bind fun v15=>(Kxa v15 v6).bind fun v17=>(bif v17 then some (.out (.inr s9)) else some (.cont (w64 (s9+1)))) else some (.out (.inl (()))))
def Vxa(a0:List (List UInt8))(s1:Int):Option (Step Int Str):=
 (zJa s1).bind fun v4=>(cat (([98]:Str)) v4).bind fun v6=>((iter (Vwa a0 v6) 0).bind (Sum.elim (fun b10=>some ((-1))) (fun b11=>some b11)):Option Int).bind fun (j8:Int)=>(bif (!(decide (0<=j8))) then some (.out v6) else some (.cont (w64 (s1+1))))
def V7a(a0:List (List UInt8)):Option Str:=
 (iter (Vxa a0) 0).bind fun b2=>some b2
def kfa(a0:List zia):Option (List zia):=
 (nilE a0.isEmpty (some ([])) ((app 4398046511104 ([]:List zia) a0).bind fun v2=>some v2))
def jta(a0:zka)(s2:Int × (List (List UInt8))):Option (Step (Int × (List (List UInt8))) (List (List UInt8))):=
 (bif decide (s2.1 < (a0.Parts.length:Int)) then (idx a0.Parts s2.1).bind fun v6=>(y6a ((zka.mk v6.Fields v6.Body ([])))).bind fun v8=>(QVa v8.1 v8.2).bind fun v10=>(app 5864062014805 s2.2 (([v10]:List (List UInt8)))).bind fun v12=>some (.cont ((w64 (s2.1+1)),v12)) else some (.out s2.2))
def jua(b3:List (List UInt8))(v14:Str)(s31:Int × (List UInt8)):Option (Step (Int × (List UInt8)) (List UInt8)):=
 (bif decide (s31.1 < (b3.length:Int)) then (idx b3 s31.1).bind fun v35=>(cat (([45,45]:Str)) v14).bind fun v37=>(cat v37 (([13,10]:Str))).bind fun v39=>(app 140737488355328 s31.2 v39).bind fun v41=>(app 140737488355328 v41 v35).bind fun v43=>(app 140737488355328 v43 (([(13:UInt8),(10:UInt8)]:List UInt8))).bind fun v45=>some (.cont ((w64 (s31.1+1)),v45)) else some (.out s31.2))
def y7a(a0:zka):Option ((List zba) × (List UInt8)):=
 (bif ((a0.Parts.length:Int)==0) then some ((a0.Fields,a0.Body)) else (iter (jta a0) ((0,([]:List (List UInt8))))).bind fun b3=>(V7a b3).bind fun v14=>(qua a0.Fields).bind fun v16=>(kfa v16.1.Params).bind fun v18=>(app 4398046511104 v18 (([(zia.mk (([98,111,117,110,100,97,114,121]:Str)) v14)]:List zia))).bind fun v20=>(zqa a0.Fields).bind fun v22=>(vLa ((zYa.mk v16.1.Type_ v16.1.Sub v20))).bind fun v24=>(idx v22 v16.2.1).bind fun v26=>(idx v22 v16.2.1).bind fun v28=>(iter (jua b3 v14) ((0,([]:List UInt8)))).bind fun b32=>(cat (([45,45]:Str)) v14).bind fun v47=>(cat v47 (([45,45,13,10]:Str))).bind fun v49=>(app 140737488355328 b32 v49).bind fun v51=>some (((List.set v22 (Int.toNat v16.2.1) ((zba.mk v28.Name v24.1))),v51)))
def ZHa(a0:zka):Option (zda × zja):=
 (Zja a0).bind fun v1=>(zna v1).bind fun v3=>(bif v3 then some (((zda.mk ([]) ([])),v1)) else (y7a a0).bind fun v6=>(zqa v6.1).bind fun v8=>(kja v6.2).bind fun v10=>(zOa ((zda.mk v8 v10))).bind fun v12=>(zna v12).bind fun v14=>(bif v14 then (zla v12.Code ((-3))).bind fun v17=>some (((zda.mk ([]) ([])),v17)) else (zva).bind fun v19=>some (((zda.mk v8 v10),v19))))
def QJa(a1:List zda)(s22:Int × (List zka)):Option (Step (Int × (List zka)) (List zka)):=
 (bif decide (s22.1 < (a1.length:Int)) then (idx a1 s22.1).bind fun v26=>(qDa v26).bind fun v28=>(app 1954687338268 s22.2 (([(zka.mk (([(zba.mk (([67,111,110,116,101,110,116,45,84,121,112,101]:Str)) (([109,101,115,115,97,103,101,47,105,116,101,109]:Str)))]:List zba)) v28.1 ([]))]:List zka))).bind fun v30=>some (.cont ((w64 (s22.1+1)),v30)) else some (.out s22.2))
def QWa(a0:Str)(a1:List zda)(a2:Int):Option (zda × zja):=
 (yea a0).bind fun v1=>(bif (!v1) then (zla 10 ((-10))).bind fun v4=>some (((zda.mk ([]) ([])),v4)) else (jsa a1).bind fun v6=>(zna v6).bind fun v8=>(bif v8 then some (((zda.mk ([]) ([])),v6)) else (QTa a2 0).bind fun v11=>(zna v11.2).bind fun v13=>(bif v13 then (zla v11.2.Code ((-2))).bind fun v16=>some (((zda.mk ([]) ([])),v16)) else (QUa v11.1).bind fun v18=>(zJa ((a1.length:Int))).bind fun v20=>(iter (QJa a1) ((0,([]:List zka)))).bind fun b23=>(ZHa ((zka.mk (([(zba.mk (([70,114,111,109]:Str)) a0),(zba.mk (([68,97,116,101]:Str)) v18.1),(zba.mk (([88,45,68,105,103,101,115,116]:Str)) v20),(zba.mk (([67,111,110,116,101,110,116,45,84,121,112,101]:Str)) (([109,117,108,116,105,112,97,114,116,47,100,105,103,101,115,116]:Str)))]:List zba)) ([]) b23))).bind fun v32=>(zna v32.2).bind fun v34=>(bif v34 then (zla v32.2.Code ((-21))).bind fun v37=>some (((zda.mk ([]) ([])),v37)) else (zva).bind fun v39=>some ((v32.1,v39))))))
def Zka(a0:List zda)(a1:Int)(s11:Int × Int × (List Int)):Option (Step (Int × Int × (List Int)) (List Int)):=
 (bif decide (s11.2.1 < (a0.length:Int)) then ((idx a0 s11.2.1).bind fun v16=>(qDa v16).bind fun v18=>((bif decide (0<=(w64 ((s11.2.2.length:Int) - 1))) then (idx s11.2.2 ((w64 ((s11.2.2.length:Int) - 1)))).bind fun v22=>(idx s11.2.2 ((w64 ((s11.2.2.length:Int) - 1)))).bind fun v24=>(bif decide (v24 < a1) then some (((w64 (s11.1+(v18.1.length:Int))),(w64 ((s11.2.2.length:Int) - 1)),decide ((w64 (s11.1+(v18.1.length:Int)))<=6000))) else some (((w64 (s11.1+(v18.1.length:Int))),(w64 ((s11.2.2.length:Int) - 1)),false))) else some (((w64 (s11.1+(v18.1.length:Int))),(w64 ((s11.2.2.length:Int) - 1)),false))):Option (Int × Int × Bool)).bind fun (j20:Int × Int × Bool)=>(bif j20.2.2 then (idx s11.2.2 j20.2.1).bind fun v28=>(idx s11.2.2 j20.2.1).bind fun v30=>(idx s11.2.2 j20.2.1).bind fun v32=>(idx s11.2.2 j20.2.1).bind fun v34=>some ((j20.1,(List.set s11.2.2 (Int.toNat j20.2.1) ((w64 (v30+1)))))) else (app 17592186044416 s11.2.2 (([1]:List Int))).bind fun v36=>some (((v18.1.length:Int),v36))):Option (Int × (List Int))).bind fun (j15:Int × (List Int))=>some (.cont (j15.1,(w64 (s11.2.1+1)),j15.2)) else some (.out s11.2.2))
def jQa(a0:List zda)(a1:Int):Option ((List Int) × zja):=
 (jsa a0).bind fun v1=>(zna v1).bind fun v3=>(bif v3 then some (([],v1)) else ((bif decide (a1 < 1) then some true else some (decide (20 < a1))):Option Bool).bind fun (j6:Bool)=>(bif j6 then (zla 3 ((-22))).bind fun v9=>some (([],v9)) else (iter (Zka a0 a1) ((0,0,([]:List Int)))).bind fun b12=>(zva).bind fun v38=>some ((b12,v38))))
def Zla:Option Bool:=
 (QWa (([108,64,120]:Str)) (([(zda.mk ([]) ([])),(zda.mk ([]) (([(97:UInt8)]:List UInt8)))]:List zda)) 0).bind fun v1=>(q7a v1.1).bind fun v3=>(jQa (([(zda.mk ([]) ([])),(zda.mk ([]) ([])),(zda.mk ([]) ([]))]:List zda)) 2).bind fun v5=>(q7a ((zda.mk ([]) ([])))).bind fun v7=>((bif (v1.2.Code==0) then (bif (v3.2.2.Code==0) then (bif (v5.2.Code==0) then (bif (v7.2.2.Code==0) then (bif v3.2.1 then (bif (!v7.2.1) then (bif ((v1.1.Fields.length:Int)==4) then (bif ((v3.1.length:Int)==2) then (idx v3.1 1).bind fun v18=>(bif (v18.Body==([97]:Str)) then (jSb v5.1 (([2,1]:List Int))).bind fun v21=>some v21 else some false) else some false) else some false) else some false) else some false) else some false) else some false) else some false) else some false):Option Bool).bind fun (j9:Bool)=>some j9
def z8a(v17:zka × zja)(s36:Bool × Int × (List zda)):Option (Step (Bool × Int × (List zda)) (Bool × (List zda))):=
 ((bif decide (s36.2.1 < (v17.1.Parts.length:Int)) then some s36.1 else some false):Option Bool).bind fun (j39:Bool)=>(bif j39 then (idx v17.1.Parts s36.2.1).bind fun v42=>(wsa v42.Body).bind fun v44=>((bif v44.2 then (bif ((v42.Parts.length:Int)==0) then (vBa ((zda.mk v42.Fields ([]))) (([67,111,110,116,101,110,116,45,84,121,112,101]:Str))).bind fun v49=>(qJa v49 (([([109,101,115,115,97,103,101,47,105,116,101,109]:Str)]:List Str))).bind fun v51=>(bif v51 then (kCa v44.1).bind fun v54=>some ((v54==v42.Body)) else some false) else some false) else some false):Option Bool).bind fun (j46:Bool)=>(app 2932031007402 s36.2.2 (([v44.1]:List zda))).bind fun v56=>some (.cont (j46,(w64 (s36.2.1+1)),v56)) else some (.out ((s36.1,s36.2.2))))
def z9a(v3:(List zda) × Bool × zja)(b37:Bool × (List zda))(s64:Int):Option (Step Int (Unit ⊕ Bool)):=
 (bif decide (s64 < (v3.1.length:Int)) then (idx v3.1 s64).bind fun v70=>(idx b37.2 s64).bind fun v72=>(idx b37.2 s64).bind fun v74=>(v5a v70 v74).bind fun v76=>(bif (!v76) then some (.out (.inr false)) else some (.cont (w64 (s64+1)))) else some (.out (.inl (()))))
def kwa(a0:zda):Option Bool:=
 (qPa a0).bind fun v1=>(q7a a0).bind fun v3=>((Zla).bind fun v6=>(bif (!v6) then some true else (bif (!(Z4a [(v3.2.2.Code==v1.Code),(v3.2.2.Index==v1.Index)])) then some true else some ((v1.Code !=0)))):Option Bool).bind fun (j5:Bool)=>(bif j5 then ((Zla).bind fun v12=>(bif v12 then (bif (Z4a [(v3.2.2.Code==v1.Code),(v3.2.2.Index==v1.Index)]) then (bif (!v3.2.1) then some (((v3.1.length:Int)==0)) else some false) else some false) else some false):Option Bool).bind fun (j11:Bool)=>some j11 else (qba a0).bind fun v17=>((bif (v17.2.Code==0) then (R_In ((v17.1.Parts.length:Int)) 1 20).bind fun v21=>some v21 else some false):Option Bool).bind fun (j19:Bool)=>((bif j19 then (vBa ((zda.mk v17.1.Fields ([]))) (([67,111,110,116,101,110,116,45,84,121,112,101]:Str))).bind fun v25=>(qJa v25 (([([109,117,108,116,105,112,97,114,116,47,100,105,103,101,115,116]:Str)]:List Str))).bind fun v27=>(bif v27 then (vBa ((zda.mk v17.1.Fields ([]))) (([88,45,68,105,103,101,115,116]:Str))).bind fun v30=>(Qea ((v17.1.Parts.length:Int))).bind fun v32=>(qJa v30 (([v32]:List Str))).bind fun v34=>some v34 else some false) else some false):Option Bool).bind fun (j23:Bool)=>(iter (z8a v17) ((j23,0,([]:List zda)))).bind fun b37=>(bif (!b37.1) then ((bif (!v3.2.1) then some (((v3.1.length:Int)==0)) else some false):Option Bool).bind fun (j59:Bool)=>some j59 else ((bif (!v3.2.1) then some true else some (((v3.1.length:Int) !=(b37.2.length:Int)))):Option Bool).bind fun (j61:Bool)=>(bif j61 then some false else (iter (z9a v3 b37) 0).bind (Sum.elim (fun b65=>some true) (fun b66=>some b66)))))
theorem Yca(t:Str)(c:UInt8):Tot ((bif decide (33<=(c.toNat:Int)) then (bif decide ((c.toNat:Int)<=126) then (zwa t c).bind fun v=>some (decide (v < 0)) else some false) else some false):Option Bool) fun _=>True:=
 .cond (fun _=>.cond (fun _=>⟨_,rfl,trivial⟩) fun _=>.ret trivial) fun _=>.ret trivial
theorem ZIa(c:UInt8):Tot (kRa c) fun _=>True:=by
 unfold kRa;exact (Yca _ c).bind fun _ _=>.ret trivial
theorem yCa(r:zfa)(h:r.s.length<=4000):Tot (zBa r) fun v=>v.s.length<=r.s.length:=by
 unfold zBa vCa;rw[if_pos ⟨by omega,by decide,by decide⟩];refine ⟨_,rfl,?_⟩;show (Lib.trimLeftS r.s [32,9]).length<=_;exact (List.dropWhile_suffix _).length_le
theorem yeb{s:Str}(h:(s==([]:Str))=false):0 < s.length:=by
 cases s with
 | nil=>exact absurd h (by decide)
 | cons _ _=>simp
theorem Yda(r:zfa)(c:UInt8)(h:r.s.length<=4000):Tot (z3a r c) fun v=>v.2.s.length<=r.s.length/\(v.1=true->v.2.s.length < r.s.length):=by
 unfold z3a;refine (yCa r h).bind fun v1 h1=>?_
 refine Tot.bind (P:=fun j=>j=false->0 < v1.s.length) (.cond (fun _=>.ret fun e=>by cases e) fun hb=>?_) fun j hj=>.cond (fun _=>.ret ⟨h1,fun e=>by cases e⟩) fun e=>?_
 .have:=yeb hb;exact (zEa (by omega) (by omega)).bind fun _ _=>.ret fun _=>this
 have:=hj e;refine (kMa (by omega) (by omega) (by omega)).bind fun r' hr=>.ret ?_
 obtain ⟨hr,_⟩:=hr;exact ⟨by show r'.length<=_;omega,fun _=>by show r'.length < _;omega⟩
theorem Yea{body:Int->Option (Step Int Int)}{p:UInt8->Option Bool}(s:Str)(hs:s.length<=12000)(hp:∀c,Tot (p c) fun _=>True)
 (hb:∀i,body i=((bif decide (i < (s.length:Int)) then (idx s i).bind fun v=>(p v).bind fun (j:Bool)=>some j else some false):Option Bool).bind fun (j:Bool)=>(bif j then some (.cont (w64 (i+1))) else some (.out i))):Tot (iter body 0) fun n=>0<=n/\n<=s.length:=
 tot_upto s.length fun i h0 h1=>by
  rw[hb];refine Tot.bind (P:=fun j=>j=true->i < s.length) (.cond (fun hd=>?_) fun _=>.ret fun e=>by cases e) fun j hj=>.cond (fun e=>.ret ?_) fun _=>.ret rfl
  .have hd:=of_decide_eq_true hd;exact (zEa h0 hd).bind fun c _=>(hp c).bind fun j _=>.ret fun _=>hd
  exact ⟨kSa h0 (by have:=hj e;omega),hj e⟩
theorem k7b(r:zfa)(h:r.s.length<=4000):Tot (iter (q3a r) 0) fun n=>0<=n/\n<=r.s.length:=
 Yea r.s (by omega) (fun c=>(ZIa c).bind fun _ _=>.cond (fun _=>.ret trivial) fun _=>.cond (fun _=>.ret trivial) fun _=>.cond (fun _=>.ret trivial) fun _=>.ret trivial) fun i=>rfl
theorem vDb(r:zfa)(h:r.s.length<=4000):Tot (iter (vja r) 0) fun n=>0<=n/\n<=r.s.length:=
 Yea r.s (by omega) (fun c=>(ZIa c).bind fun _ _=>.cond (fun _=>.ret trivial) fun _=>.ret trivial) fun i=>rfl
theorem k8b(r:zfa)(h:r.s.length<=4000):Tot (iter (jKa r) 0) fun n=>0<=n/\n<=r.s.length:=
 Yea r.s (by omega) (fun c=>Yca _ c) fun i=>rfl
theorem k9b(r:zfa)(h:r.s.length<=4000):Tot (iter (jLa r) 0) fun n=>0<=n/\n<=r.s.length:=
 Yea r.s (by omega) (fun c=>Yca _ c) fun i=>rfl
theorem jTb(r:zfa)(h:r.s.length<=4000):Tot (k2a r) fun v=>v.1.length<=4000/\v.2.2.s.length<=r.s.length:=by
 unfold k2a;refine (Yda r 34 h).bind fun v1 h1=>.cond (fun _=>?_) fun _=>?_
 .refine (yCa v1.2 (by omega)).bind fun v4 h4=>(k7b v4 (by omega)).bind fun n hn=>?_
  refine (kMa (by omega) hn.1 hn.2).bind fun a ha=>(kMa hn.1 hn.2 (jBe _)).bind fun b hb=>.ret ⟨?_,?_⟩
  .show a.length<=4000;omega
  show b.length<=_;omega
 refine Tot.bind (P:=Sum.elim (fun _=>True) fun b:Str × Bool × zfa=>b.1.length<=4000/\b.2.2.s.length<=r.s.length) (zRa (fun s:Int × List UInt8=>0<=s.1/\s.1<=v1.2.s.length/\(s.2.length:Int)<=s.1) (fun s:Int × List UInt8=>(v1.2.s.length - s.1).toNat) (fun s hs=>?_) _ ⟨jBe _,by show (0:Int)<=_;omega,jBe _⟩) fun x hx=>.elim (fun a _=>.ret ⟨jBi _,h1.1⟩) fun b e=>.ret (by subst e;exact hx)
 obtain ⟨i,o⟩:=s;obtain ⟨h0,hi,ho⟩:=hs;dsimp only at h0 hi ho;unfold q4a ksa;dsimp only;refine .cond (fun hd=>?_) fun _=>.ret trivial
 have hd:=of_decide_eq_true hd;rw[kSa h0 (by omega),kSa (i:=i+1) (by omega) (by omega)];refine (zEa h0 hd).bind fun c _=>.cond (fun _=>?_) fun _=>.cond (fun _=>.cond (fun _=>.ret ⟨jBi _,h1.1⟩) fun hne=>?_) fun _=>?_
 .exact (kMa (by omega) (by omega) (jBe _)).bind fun b hb=>.ret ⟨by show o.length<=_;omega,by show b.length<=_;omega⟩
 .have hne:i+1≠v1.2.s.length:=by simpa using hne
  refine (zEa (by omega) (by omega)).bind fun x _=>(yda (by simp;omega)).bind fun o' ho' =>.ret ?_
  subst ho';simp only[Qla,jBs,jCj];omega
 refine (yda (by simp;omega)).bind fun o' ho' =>.ret ?_
 subst ho';simp only[Qla,jBs,jCj];omega
theorem yfb(s:Str)(m:Int)(hm:0<=m)(hs:s.length<=4000):Tot (wWa s m) fun v=>0<=v.1/\v.1<=m:=by
 unfold wWa;have hA:Tot (qva s) fun v=> -9223372036854775808<=v.1/\v.1<=9223372036854775807:=by
  unfold qva;split
  .cases ha:Lib.atoi s with
   | none=>exact .ret (by decide)
   | some n=>exact .ret (by have:=Lib.atoi_bound ha (by assumption);dsimp only;omega)
  rw[if_pos (by omega)];cases ha:Lib.atoiAll s with
  | ok v=>exact .ret (Lib.atoiAll_bounds ha)
  | range=>exact .ret (Lib.atoiSat_bounds s)
  | _=>exact .ret (by decide)
 refine hA.bind fun v1 h1=>?_
 refine Tot.bind (P:=fun j=>j=false->0<=v1.1/\v1.1<=m) (.cond (fun _=>.ret fun e=>by cases e) fun _=>?_) fun j hj=>.cond (fun _=>.ret ⟨jBe _,hm⟩) fun e=>.ret (hj e)
 unfold zJa;rw[if_pos h1];refine Tot.bind (P:=fun _=>True) (.ret trivial) fun v5 _=>.cond (fun _=>.ret fun e=>by cases e) fun _=>.cond (fun _=>.ret fun e=>by cases e) fun h2=>.ret fun h3=>?_
 have h2:=of_decide_eq_false h2;have h3:=of_decide_eq_false h3;omega
theorem cut_len(s t:Str):(Lib.cut s t).1.length<=s.length/\(Lib.cut s t).2.1.length<=s.length:=by
 unfold Lib.cut;split
 .exact ⟨by simp;omega,by simp⟩
 exact ⟨jAm _,jBi _⟩
def PcOk(p:zca):Prop:=okP p=true/\p.name.length<=4000/\p.value.length<=4000
theorem tot_read(r:zfa)(h:r.s.length<=4000):Tot (qta r) fun v=>PcOk v.1/\v.2.2.s.length<=r.s.length:=by
 unfold qta;refine (yCa r h).bind fun v1 h1=>(vDb v1 (by omega)).bind fun n hn=>(kMa (by omega) hn.1 hn.2).bind fun a ha=>(kMa hn.1 hn.2 (jBe _)).bind fun b hb=>?_
 refine (Yda ⟨b⟩ 61 (by show b.length<=_;omega)).bind fun v19 h19=>?_
 have h19:v19.2.s.length<=b.length:=h19.1;refine .cond (fun _=>.ret ⟨⟨by show (decide ((-1:Int)<=0) && decide ((0:Int)<=1099511627776))=true;decide,jBi _,jBi _⟩,by show v19.2.s.length<=_;omega⟩) fun _=>?_
 refine (jTb v19.2 (by omega)).bind fun v22 h22=>?_
 have hc:=cut_len a [42];refine Tot.bind (P:=fun v=>v=Lib.cut a [42]) ?_ fun v24 h24=>?_
 .unfold k8a;rw[if_pos (by omega)];exact .ret rfl
 subst h24;refine Tot.bind (P:=fun j=> -1<=j.2.1/\j.2.1<=1099511627776) (.cond (fun _=>?_) fun _=>.ret (by show (-1:Int)<= -1/\(-1:Int)<=1099511627776;decide)) fun j hj=>?_
 .refine Tot.bind (P:=fun v=>v.1.length<=4000) ?_ fun v28 h28=>?_
  .unfold kma;rw[if_pos (by omega)];refine .ret ?_;have:=Lib.trimSuffix_le (Lib.cut a [42]).2.1 [42];dsimp only;omega
  refine (yfb v28.1 1099511627776 (by decide) h28).bind fun v30 h30=>.cond (fun _=>.ret ?_) fun _=>.ret ?_
  all_goals (dsimp only;omega)
 refine Tot.bind (P:=fun _=>True) (.cond (fun _=>.ret trivial) fun _=>.ret trivial) fun _ _=>.ret ⟨⟨?_,?_,h22.1⟩,?_⟩
 .show (decide (-1<=j.2.1) && decide (j.2.1<=1099511627776))=true;rw[decide_eq_true hj.1,decide_eq_true hj.2];rfl
 .show (Lib.cut a [42]).1.length<=4000;omega
 show v22.2.2.s.length<=_;omega
theorem jUb(c:UInt8):Tot (Zda c) fun _=>True:=by
 unfold Zda;refine Tot.bind (P:=fun _=>True) (.cond (fun _=>.ret trivial) fun _=>.ret trivial) fun _ _=>.cond (fun _=>.ret trivial) fun _=>?_
 refine Tot.bind (P:=fun _=>True) (.cond (fun _=>.ret trivial) fun _=>.ret trivial) fun _ _=>.cond (fun _=>.ret trivial) fun _=>?_
 exact Tot.bind (P:=fun _=>True) (.cond (fun _=>.ret trivial) fun _=>.ret trivial) fun _ _=>.cond (fun _=>.ret trivial) fun _=>.ret trivial
theorem tot_Pair(s:Str):Tot (Zea s) fun v=>v.2=true->2<=s.length:=by
 unfold Zea;refine .cond (fun _=>.ret fun e=>by cases e) fun hd=>?_
 have hd:=of_decide_eq_false hd;refine (zEa (by omega) (by omega)).bind fun a _=>(jUb a).bind fun _ _=>(zEa (by omega) (by omega)).bind fun b _=>(jUb b).bind fun _ _=>?_
 exact Tot.bind (P:=fun _=>True) (.cond (fun _=>.ret trivial) fun _=>.ret trivial) fun _ _=>.ret fun _=>by omega
theorem wGa(a b:Str)(ha:a.length<=1048576)(hb:b.length<=1048576):Tot (kba a b) fun v=>v=Vua a b:=⟨_,Vva a b ha hb,rfl⟩
theorem tot_text(p:zca)(h:p.value.length<=4000):Tot (qNa p) fun v=>v.length<=4000:=by
 unfold qNa;refine .cond (fun _=>.ret h) fun _=>?_
 refine Tot.bind (P:=fun v:Str=>v.length<=4000) ?_ fun s hs=>?_
 .refine Tot.bind (P:=fun j=>j=true->6<=p.value.length) ?_ fun j hj=>.cond (fun e=>?_) fun _=>.ret h
  .refine .cond (fun _=>.cond (fun hd=>?_) fun _=>.ret fun e=>by cases e) fun _=>.ret fun e=>by cases e
   have hd:=of_decide_eq_true hd;refine (kMa (by omega) (by omega) (by omega)).bind fun a ha=>?_
   exact (wGa a _ (by omega) (by decide)).bind fun _ _=>.ret fun _=>by omega
  have:=hj e;refine (kMa (by omega) (by omega) (jBe _)).bind fun a ha=>.ret ?_
  omega
 refine Tot.bind (P:=fun v:List UInt8=>v.length<=4000) (zRa (fun t:Int × List UInt8=>0<=t.1/\t.1<=s.length/\(t.2.length:Int)<=t.1) (fun t:Int × List UInt8=>(s.length - t.1).toNat) (fun t ht=>?_) _ ⟨jBe _,by show (0:Int)<=_;omega,jBe _⟩) fun v hv=>.ret hv
 obtain ⟨i,o⟩:=t;obtain ⟨h0,hi,ho⟩:=ht;dsimp only at h0 hi ho;unfold vJa kQa;dsimp only;refine .cond (fun hd=>?_) fun _=>.ret (by show o.length<=4000;omega)
 have hd:=of_decide_eq_true hd;have plain:Tot ((idx s i).bind fun v19=>(app 140737488355328 o (([v19]:List UInt8))).bind fun v21=>some ((i,v21))) fun j=>i<=j.1/\j.1 < s.length/\(j.2.length:Int)<=j.1+1:=
  (zEa h0 hd).bind fun c _=>(yda (by simp;omega)).bind fun o' ho' =>.ret (by subst ho';simp only[jBs,jCj];omega)
 refine Tot.bind (P:=fun j:Int × List UInt8=>i<=j.1/\j.1 < s.length/\(j.2.length:Int)<=j.1+1) ?_ fun j hj=>.ret ?_
 .refine (zEa h0 hd).bind fun c _=>.cond (fun _=>?_) fun _=>plain
  rw[kSa h0 (by omega)];refine (kMa (by omega) (by omega) (jBe _)).bind fun r hr=>(tot_Pair r).bind fun v28 h28=>.cond (fun e=>?_) fun _=>plain
  have:=h28 e;refine (yda (by simp;omega)).bind fun o' ho' =>.ret ?_
  subst ho';rw[vna (by omega) (by omega)];simp only[jBs,jCj];omega
 rw[kSa (i:=j.1) (by omega) (by omega)];simp only[Qla];omega
def ZJa(L:List zca):Prop:=∀(i:Nat) x,L[i]? =some x->x.number=i
theorem YNa(L:List zca)(h:∀x∈L,PcOk x)(hl:L.length<=4000):Tot (iter (waa L) (0,([]:Str))) (Sum.elim (fun s=>s.length<=16000000/\ZJa L) fun _=>¬ZJa L):=by
 refine zRa (fun t:Int × Str=>0<=t.1/\t.1<=L.length/\(t.2.length:Int)<=4000 * t.1/\∀(j:Nat) x,(j:Int) < t.1->L[j]? =some x->x.number=j) (fun t:Int × Str=>(L.length - t.1).toNat) (fun t ht=>?_) _ ⟨jBe _,by show (0:Int)<=_;omega,by decide,fun j x hj=>by simp at hj;omega⟩;obtain ⟨i,o⟩:=t;obtain ⟨h0,hi,ho,hg⟩:=ht;dsimp only at h0 hi ho hg;unfold waa;dsimp only;refine .cond (fun hd=>?_) fun hd=>?_
 .have hd:=of_decide_eq_true hd;refine (zEa h0 hd).bind fun x hx=>.cond (fun hne=>.ret fun hgood=>?_) fun he=>?_
  .have:=hgood i.toNat x hx.2;have hne:x.number≠i:=by simpa using hne
   omega
  have he:x.number=i:=by simpa using he
  refine (tot_text x (h x hx.1).2.2).bind fun v hv=>(k7a (by omega)).bind fun r hr=>.ret ?_
  rw[kSa h0 (by omega)];refine ⟨⟨by show 0<=i+1;omega,by show i+1<=_;omega,by show (r.length:Int)<=4000 * (i+1);omega,fun j y hj hy=>?_⟩,by show (_:Nat) < _;simp only;omega⟩;have hj:(j:Int) < i+1:=hj;by_cases e:(j:Int) < i
  .exact hg j y e hy
  have e2:i.toNat=j:=by omega
  rw[<-e2,hx.2]at hy;cases hy;omega
 have hd:=of_decide_eq_false hd;refine .ret ⟨by show o.length<=_;omega,fun j x hx=>hg j x ?_ hx⟩;have:=z6a hx;omega
theorem jVb{L:List zca}(h:∀x∈L,PcOk x)(hl:L.length<=4000)(hg:ZJa L):∃v,kIa L=some (some v):=by
 obtain ⟨r,h1,h2⟩:=YNa L h hl;unfold kIa;rw[h1];cases r with
 | inr s=>exact absurd hg h2
 | inl s=>
  simp only[jAc,Sum.elim_inl];unfold qEa;have h2:s.length<=16000000/\ZJa L:=h2;rw[if_pos ⟨by omega,by decide⟩];exact ⟨_,rfl⟩
theorem rest_bad{L:List zca}(h:∀x∈L,PcOk x)(hl:L.length<=4000)(hg:¬ZJa L):kIa L=some none:=by
 obtain ⟨r,h1,h2⟩:=YNa L h hl;unfold kIa;rw[h1];cases r with
 | inr s=>rfl
 | inl s=>exact absurd h2.2 hg
theorem vEb{L M:List zca}(hp:M.Perm L)(hs:L.Pairwise fun a b=>a.number<=b.number)(hm:M.Pairwise fun a b=>a.number<=b.number)(hg:ZJa L):M=L:=by
 refine hp.eq_of_pairwise (le:=fun a b=>a.number<=b.number) (fun a b ha hb h1 h2=>?_) hm hs;obtain ⟨i,hi⟩:=jCo (hp.mem_iff.1 ha);obtain ⟨j,hj⟩:=jCo hb;have e1:=hg i a hi;have e2:=hg j b hj;have:i=j:=by omega
 subst this;rw[hi]at hj;exact Option.some.inj hj
theorem joins_ex(l:List zca)(h:∀x∈l,PcOk x)(hl:l.length<=4000):∃o,Joins l o:=by
 by_cases hx:∃L:List zca,L.Perm l/\L.Pairwise (fun a b=>a.number<=b.number)/\ZJa L
 .obtain ⟨L,h1,h2,h3⟩:=hx;obtain ⟨v,hv⟩:=jVb (fun x hx=>h x (h1.mem_iff.1 hx)) (by rw[h1.length_eq];exact hl) h3;exact ⟨some v,fun M m1 m2=>by rw[vEb (m1.trans h1.symm) h2 m2 h3];exact hv⟩
 exact ⟨none,fun M m1 m2=>rest_bad (fun x hx=>h x (m1.mem_iff.1 hx)) (by rw[m1.length_eq];exact hl) fun hg=>hx ⟨M,m1,m2,hg⟩⟩
theorem ygb(l:List zca)(h:∀x∈l,PcOk x)(hl:l.length<=4000)(hn:l≠ []):Tot (w1a l) fun _=>True:=by
 unfold w1a;have:0 < l.length:=jCr.2 hn;refine (zEa (by omega) (by omega)).bind fun v _=>.cond (fun _=>.ret trivial) fun _=>?_
 unfold vKa;rw[dif_pos ⟨fun x hx=>(h x hx).1,by omega,joins_ex l h hl⟩];exact .ret trivial
theorem yhb(s:Str):Vua s s=true:=by unfold Vua;simp
theorem jWb(v:zca)(L:List zca)(hv:PcOk v)(h:∀x∈L,PcOk x)(hl:L.length<=4000):Tot (iter (wCa v L) 0) fun _=>True:=by
 refine zRa (fun i:Int=>0<=i/\i<=L.length) (fun i:Int=>(L.length - i).toNat) (fun i hi=>?_) _ (by omega);unfold wCa;refine .cond (fun hd=>?_) fun _=>.ret trivial
 have hd:=of_decide_eq_true hd;refine (zEa hi.1 hd).bind fun x hx=>?_
 have hx:=h x hx.1;refine (wGa _ _ (jAt hx.2.1 (by decide)) (jAt hv.2.1 (by decide))).bind fun _ _=>.cond (fun _=>.ret trivial) fun _=>.ret ?_
 rw[kSa hi.1 (by omega)];simp only[Qla];omega
theorem jXb(b:zfa × List zca)(v:zca)(h:∀x∈b.2,PcOk x)(hl:b.2.length<=4000)(hv:v∈b.2):Tot (iter (wDa b v) (0,([]:List zca))) fun r=>r≠ []/\r.length<=4000/\∀x∈r,PcOk x:=by
 obtain ⟨k,hk⟩:=jCo hv;have hkl:=z6a hk;refine zRa (fun t:Int × List zca=>0<=t.1/\t.1<=b.2.length/\(t.2.length:Int)<=t.1/\(∀x∈t.2,PcOk x)/\((k:Int) < t.1->t.2≠ [])) (fun t:Int × List zca=>(b.2.length - t.1).toNat) (fun t ht=>?_) _ ⟨jBe _,by show (0:Int)<=_;omega,jBe _,fun x hx=>(by cases hx),fun e=>by simp at e;omega⟩;obtain ⟨i,o⟩:=t;obtain ⟨h0,hi,ho,hm,hne⟩:=ht;dsimp only at h0 hi ho hm hne;unfold wDa;dsimp only;refine .cond (fun hd=>?_) fun hd=>?_
 .have hd:=of_decide_eq_true hd;refine Tot.bind (P:=fun r:List zca=>(r.length:Int)<=i+1/\(∀x∈r,PcOk x)/\((k:Int) < i+1->r≠ [])) ?_ fun r hr=>.ret ?_
  .refine (zEa h0 hd).bind fun x hx=>?_
   have hxo:=h x hx.1;refine (wGa _ _ (jAt hxo.2.1 (by decide)) (jAt (h v hv).2.1 (by decide))).bind fun s hs=>.cond (fun _=>?_) fun e=>.ret ⟨by omega,hm,fun hki=>?_⟩
   .refine (yda (by simp;omega)).bind fun o' ho' =>.ret ?_
    subst ho';refine ⟨by simp;omega,fun y hy=>?_,fun _=>by simp⟩;rcases jCk.1 hy with hy | hy
    .exact hm y hy
    rw[jCd.1 hy];exact hxo
   by_cases e2:(k:Int) < i
   .exact hne e2
   have e3:i.toNat=k:=by omega
   have hx2:=hx.2;rw[e3,hk]at hx2;cases hx2;rw[hs,yhb]at e;cases e
  rw[kSa h0 (by omega)];refine ⟨⟨by show 0<=i+1;omega,by show i+1<=_;omega,hr.1,hr.2.1,hr.2.2⟩,by show (_:Nat) < _;simp only;omega⟩
 have hd:=of_decide_eq_false hd;exact .ret ⟨hne (by omega),by show o.length<=_;omega,hm⟩
def MedB(m:zYa):Prop:=m.Params.length<=4000/\∀p∈m.Params,p.Name.length<=4000
theorem yib(b:zfa × List zca)(h:∀x∈b.2,PcOk x)(hl:b.2.length<=4000):Tot (iter (wEa b) (0,([]:List zia))) (Sum.elim (fun r=>r.length<=4000/\∀p∈r,p.Name.length<=4000) fun _=>True):=by
 refine zRa (fun t:Int × List zia=>0<=t.1/\t.1<=b.2.length/\(t.2.length:Int)<=t.1/\∀p∈t.2,p.Name.length<=4000) (fun t:Int × List zia=>(b.2.length - t.1).toNat) (fun t ht=>?_) _ ⟨jBe _,by show (0:Int)<=_;omega,jBe _,fun x hx=>by cases hx⟩;obtain ⟨i,o⟩:=t;obtain ⟨h0,hi,ho,hm⟩:=ht;dsimp only at h0 hi ho hm;unfold wEa vwa;dsimp only;refine .cond (fun hd=>?_) fun _=>.ret ⟨by show o.length<=_;omega,hm⟩
 have hd:=of_decide_eq_true hd;rw[kSa h0 (by omega)];refine (zEa h0 hd).bind fun v hv=>(kMa (by omega) h0 (by omega)).bind fun c hc=>?_
 refine Tot.bind (P:=fun _=>True) ((jWb v c (h v hv.1) (fun x hx=>h x (hc.2 x hx)) (by omega)).bind fun x _=>.elim (fun _ _=>.ret trivial) fun _ _=>.ret trivial) fun j _=>.cond (fun _=>.ret ⟨⟨by show 0<=i+1;omega,by show i+1<=_;omega,by show (o.length:Int)<=i+1;omega,hm⟩,by show (_:Nat) < _;simp only;omega⟩) fun _=>?_
 refine (jXb b v h hl hv.1).bind fun r hr=>(ygb r hr.2.2 hr.2.1 hr.1).bind fun q _=>.cond (fun _=>.ret trivial) fun _=>(yda (by simp;omega)).bind fun o' ho' =>.ret ?_
 subst ho';refine ⟨⟨by show 0<=i+1;omega,by show i+1<=_;omega,by show ((o++_).length:Int)<=i+1;simp;omega,fun p hp=>?_⟩,by show (_:Nat) < _;simp only;omega⟩;rcases jCk.1 hp with hp | hp
 .exact hm p hp
 rw[jCd.1 hp];exact (h v hv.1).2.1
theorem z3b(r:zfa)(h:r.s.length<=4000):Tot (iter wBa (r,([]:List zca))) (Sum.elim (fun b=>b.1.s.length<=4000/\b.2.length<=4000/\∀x∈b.2,PcOk x) fun _=>True):=by
 refine zRa (fun t:zfa × List zca=>t.1.s.length+t.2.length<=4000/\∀x∈t.2,PcOk x) (fun t:zfa × List zca=>t.1.s.length) (fun t ht=>?_) _ ⟨by simpa using h,fun x hx=>by cases hx⟩;obtain ⟨r,o⟩:=t;obtain ⟨h0,hm⟩:=ht;dsimp only at h0 hm;unfold wBa;dsimp only;refine (Yda r 59 (by omega)).bind fun v hv=>.cond (fun e=>?_) fun _=>.ret ⟨by show v.2.s.length<=_;omega,by show o.length<=_;omega,hm⟩
 have:=hv.2 e;refine (tot_read v.2 (by omega)).bind fun q hq=>.cond (fun _=>.ret trivial) fun _=>(yda (by simp;omega)).bind fun o' ho' =>.ret ?_
 subst ho';refine ⟨⟨by show q.2.2.s.length+(o++_).length<=_;simp;omega,fun x hx=>?_⟩,by show q.2.2.s.length < r.s.length;omega⟩;rcases jCk.1 hx with hx | hx
 .exact hm x hx
 rw[jCd.1 hx];exact hq.1
theorem jYb(s:Str)(h:s.length<=4000):Tot (yZa s) fun v=>MedB v.1:=by
 have nil:∀a b,MedB (zYa.mk a b []):=fun a b=>⟨jBi _,fun p hp=>by cases hp⟩
 unfold yZa;refine (yCa ⟨s⟩ h).bind fun v1 h1=>?_
 have h1:v1.s.length<=s.length:=h1;refine (k8b v1 (by omega)).bind fun n hn=>(kMa (by omega) hn.1 hn.2).bind fun a ha=>(kMa hn.1 hn.2 (jBe _)).bind fun b hb=>?_
 refine (Yda ⟨b⟩ 47 (by show b.length<=_;omega)).bind fun v20 h20=>?_
 have h20:v20.2.s.length<=b.length:=h20.1;refine (yCa v20.2 (by omega)).bind fun v22 h22=>(k9b v22 (by omega)).bind fun m hm=>(kMa (by omega) hm.1 hm.2).bind fun c hc=>(kMa hm.1 hm.2 (jBe _)).bind fun d hd=>?_
 refine Tot.bind (P:=fun _=>True) (.cond (fun _=>.ret trivial) fun _=>.cond (fun _=>.ret trivial) fun _=>.ret trivial) fun _ _=>.cond (fun _=>.ret (nil _ _)) fun _=>?_
 refine (z3b ⟨d⟩ (by show d.length<=_;omega)).bind fun x hx=>.elim (fun p e=>?_) fun _ _=>.ret (nil _ _)
 subst e;refine (yCa p.1 hx.1).bind fun _ _=>(yib p hx.2.2 hx.2.1).bind fun y hy=>.elim (fun q e=>.ret ?_) fun _ _=>.ret (nil _ _)
 subst e;exact hy
structure yjb (m:zYa):Prop where
 t:m.Type_.length<=60
 s:m.Sub.length<=60
 l:m.Params.length<=60
 p:∀p∈m.Params,p.Name.length<=20/\p.Value.length<=500
theorem Zma:yjb ⟨[],[],[]⟩:=⟨by decide,by decide,by decide,fun p hp=>by cases hp⟩
theorem yjb.b{m:zYa}(h:yjb m):MedB m:=⟨jAt h.l (by decide),fun p hp=>jAt (h.p p hp).1 (by decide)⟩
theorem Vya(s:Str):Tot (q5a s) fun v=>v=true->s.length<=60:=by
 unfold q5a;refine Tot.bind (P:=fun v=>v=true->s.length<=60) (.cond (fun _=>.cond (fun hd=>?_) fun _=>.ret fun e=>by cases e) fun _=>.ret fun e=>by cases e) fun v hv=>.ret hv
 have hd:=of_decide_eq_true hd;refine Tot.bind (P:=fun _=>True) ?_ fun _ _=>.ret fun _=>by omega
 refine Tot.bind (P:=fun _=>True) (zRa (fun i:Int=>0<=i/\i<=s.length) (fun i:Int=>(s.length - i).toNat) (fun i hi=>?_) _ (by omega)) fun x _=>.elim (fun _ _=>.ret trivial) fun _ _=>.ret trivial
 unfold jMa;refine .cond (fun hl=>?_) fun _=>.ret trivial
 have hl:=of_decide_eq_true hl;refine (zEa hi.1 hl).bind fun c _=>(Yca _ c).bind fun j _=>.cond (fun _=>.ret trivial) fun _=>.ret ?_
 rw[kSa hi.1 (by omega)];simp only[Qla];omega
theorem Kya(m:zYa)(h:MedB m):Tot (qaa m) fun f=>f.Code=0->yjb m:=by
 unfold qaa;refine Tot.bind (P:=fun j=>j=false->m.Type_.length<=60/\m.Sub.length<=60) ((Vya m.Type_).bind fun v2 h2=>.cond (fun _=>.ret fun e=>by cases e) fun e2=>(Vya m.Sub).bind fun v5 h5=>.ret fun e5=>⟨h2 (by simpa using e2),h5 (by simpa using e5)⟩) fun j hj=>.cond (fun _=>.ret fun e=>by cases e) fun e=>.cond (fun _=>.ret fun e=>by cases e) fun h60=>?_
 have hj:=hj e;have h60:=of_decide_eq_false h60;refine Tot.bind (P:=Sum.elim (fun _=>∀p∈m.Params,p.Name.length<=20/\p.Value.length<=500) fun f=>f.Code≠0) (zRa (fun i:Int=>0<=i/\i<=m.Params.length/\∀(j:Nat) p,(j:Int) < i->m.Params[j]? =some p->p.Name.length<=20/\p.Value.length<=500) (fun i:Int=>(m.Params.length - i).toNat) (fun i hi=>?_) _ ⟨jBe _,by omega,fun j p hj=>by omega⟩) fun x hx=>.elim (fun _ e=>.ret fun _=>⟨hj.1,hj.2,by omega,by subst e;exact hx⟩) fun f e=>.ret fun e0=>by subst e;exact absurd e0 hx
 obtain ⟨h0,hi,hg⟩:=hi;unfold wua;refine .cond (fun hl=>?_) fun hl=>?_
 .have hl:=of_decide_eq_true hl;refine (zEa h0 hl).bind fun p hp=>?_
  have hpn:=h.2 p hp.1;refine Tot.bind (P:=fun j=>j=false->p.Name.length<=20) ((Vya p.Name).bind fun v _=>.cond (fun _=>.ret fun e=>by cases e) fun _=>.ret fun e=>by have:=of_decide_eq_false e;omega) fun k hk=>.cond (fun _=>.ret (by show (10:Int)≠0;decide)) fun ek=>?_
  have hk:=hk ek;refine (kMa (by omega) h0 (by omega)).bind fun c hc=>?_
  refine Tot.bind (P:=fun _=>True) ?_ fun _ _=>.cond (fun _=>.ret (by show (7:Int)≠0;decide)) fun _=>.cond (fun _=>.ret (by show (1:Int)≠0;decide)) fun h5=>?_
  .refine Tot.bind (P:=fun _=>True) (zRa (fun i:Int=>0<=i/\i<=c.length) (fun i:Int=>(c.length - i).toNat) (fun i hi=>?_) _ (by omega)) fun x _=>.elim (fun _ _=>.ret trivial) fun _ _=>.ret trivial
   unfold wta;refine .cond (fun hl=>?_) fun _=>.ret trivial
   have hl:=of_decide_eq_true hl;refine (zEa hi.1 hl).bind fun q hq=>(wGa _ _ (jAt (h.2 q (hc.2 q hq.1)) (by decide)) (jAt hpn (by decide))).bind fun _ _=>.cond (fun _=>.ret trivial) fun _=>.ret ?_
   rw[kSa hi.1 (by omega)];simp only[Qla];omega
  have h5:=of_decide_eq_false h5;unfold kva;rw[if_pos (by omega)];refine Tot.bind (P:=fun _=>True) (.ret trivial) fun _ _=>.cond (fun _=>.ret (by show (5:Int)≠0;decide)) fun _=>.ret ?_
  rw[kSa h0 (by omega)];refine ⟨⟨by omega,by omega,fun j q hj hq=>?_⟩,by show (_:Nat) < _;dsimp only;omega⟩;by_cases e:(j:Int) < i
  .exact hg j q e hq
  have e2:i.toNat=j:=by omega
  rw[<-e2,hp.2]at hq;cases hq;exact ⟨hk,by omega⟩
 have hl:=of_decide_eq_false hl;refine .ret fun p hp=>?_
 obtain ⟨j,hj⟩:=jCo hp;exact hg j p (by have:=z6a hj;omega) hj
theorem jZb(s:Str):Tot (y0a s) fun v=>yjb v.1:=by
 unfold y0a;refine .cond (fun _=>.ret Zma) fun hd=>?_
 have hd:=of_decide_eq_false hd;refine (jYb s (by omega)).bind fun v hv=>.cond (fun _=>.ret Zma) fun _=>(Kya v.1 hv).bind fun f hf=>?_
 rw[zsa];refine .cond (fun _=>.ret Zma) fun e=>.ret (hf (by simpa using e))
theorem z4b(l:List zba)(h:qra l):Tot (qua l) fun v=>yjb v.1/\(v.2.2=true->0<=v.2.1/\v.2.1 < l.length):=by
 unfold qua;have hl:=h.1;refine Tot.bind (P:=Sum.elim (fun at_:Int=>at_ < 0∨(0<=at_/\at_ < l.length)) fun _=>True) (zRa (fun t:Int × Int=>0<=t.2/\t.2<=l.length/\(t.1 < 0∨(0<=t.1/\t.1 < l.length))) (fun t:Int × Int=>(l.length - t.2).toNat) (fun t ht=>?_) _ ⟨jBe _,by show (0:Int)<=_;omega,.inl (by decide)⟩) fun x hx=>.elim (fun a e=>?_) fun _ _=>.ret ⟨Zma,fun e=>by cases e⟩
 .obtain ⟨a,i⟩:=t;obtain ⟨h0,hi,ha⟩:=ht;dsimp only at h0 hi ha;unfold ZFa wba;dsimp only;refine .cond (fun hd=>?_) fun _=>.ret ha
  have hd:=of_decide_eq_true hd;rw[kSa h0 (by omega)];refine (zEa h0 hd).bind fun f hf=>(wGa _ _ (h.2 f hf.1).1 (by decide)).bind fun _ _=>.cond (fun _=>.cond (fun _=>.ret trivial) fun _=>.ret ?_) fun _=>.ret ?_
  all_goals (simp only[Qla];omega)
 subst e;have hx:a < 0∨(0<=a/\a < l.length):=hx;refine .cond (fun _=>.ret ⟨Zma,fun e=>by cases e⟩) fun ha=>?_
 have ha:=of_decide_eq_false ha;refine (zEa (by omega) (by omega)).bind fun f _=>(jZb f.Value).bind fun v hv=>?_
 rw[zsa];exact .ret ⟨hv,fun _=>by dsimp only;omega⟩
def fl:List UInt8->List UInt8->List Str × List UInt8
 | cur,[]=>([],cur)
 | cur,[c]=>([],cur++ [c])
 | cur,c::d::r=>if c=13/\d=10 then (cur::(fl [] r).1,(fl [] r).2) else fl (cur++ [c]) (d::r)
theorem fl_hit(cur r:List UInt8):fl cur (13::10::r)=(cur::(fl [] r).1,(fl [] r).2):=by rw[fl,if_pos ⟨rfl,rfl⟩]
theorem fl_miss{c d:UInt8}(h:¬(c=13/\d=10))(cur r:List UInt8):fl cur (c::d::r)=fl (cur++ [c]) (d::r):=by rw[fl,if_neg h]
theorem vFb(c d:UInt8)(r:List UInt8):Lib.index (c::d::r) [13,10]=if c=13/\d=10 then 0 else if Lib.index (d::r) [13,10]= -1 then -1 else Lib.index (d::r) [13,10]+1:=by
 rw[Lib.index];by_cases h:c=13/\d=10
 .obtain ⟨rfl,rfl⟩:=h;simp
 rw[if_neg h,if_neg]
 .simp
 simp only[List.isPrefixOf,Bool.and_true,jAn,beq_iff_eq];rintro ⟨rfl,rfl⟩;exact h ⟨rfl,rfl⟩
theorem fl_some(l:List UInt8):∀(cur:List UInt8) (k:Nat),Lib.index l [13,10]=(k:Int)->k+2<=l.length/\fl cur l=((cur++l.take k)::(fl [] (l.drop (k+2))).1,(fl [] (l.drop (k+2))).2):=by
 induction l with
 | nil=>intro cur k h;simp[Lib.index]at h
 | cons c r ih=>
  intro cur k h
  match r,ih with
  | [],_=>simp[Lib.index]at h
  | d::r,ih=>
   rw[vFb]at h;have hg:=Lib.index_ge (d::r) [13,10];split at h
   .rename_i hn;obtain ⟨rfl,rfl⟩:=hn;obtain rfl:k=0:=by omega
    rw[fl_hit];simp
   rename_i hn;split at h
   .omega
   obtain ⟨j,rfl⟩:∃j,k=j+1:=⟨k - 1,by omega⟩;obtain ⟨h1,h2⟩:=ih (cur++ [c]) j (by omega);rw[fl_miss hn,h2];refine ⟨by simp at h1 ⊢;omega,?_⟩;simp
def fA:Str:=[97,64,120]
def fD:Str:=[100,64,120]
instance:DecidableEq zba:=fun a b=>decidable_of_iff (a.Name=b.Name/\a.Value=b.Value) (by cases a;cases b;simp)
instance:DecidableEq zda:=fun a b=>decidable_of_iff (a.Fields=b.Fields/\a.Body=b.Body) (by cases a;cases b;simp)
instance:DecidableEq ZAa:=fun a b=>decidable_of_iff (a.Envelope=b.Envelope/\a.Message=b.Message) (by cases a;cases b;simp)
theorem clone_eq{α:Type}{lim:Nat}(l:List α)(h:l.length<=lim):(nilE l.isEmpty (some ([]:List α)) ((app lim ([]:List α) l).bind fun v=>some v))=some l:=by
 rw[qma (by simpa using h)];simp only[jCf,jAc];exact ktb _ _ _ (fun he=>by rw[List.isEmpty_iff.1 he])
theorem w3a(l:List zba)(h:l.length<=1048576):zqa l=some l:=clone_eq l (by omega)
theorem Vza(s t:List UInt8)(hs:s.length<=9223372036854775806):kNa s t=some (t.isSuffixOf s):=by
 unfold kNa qza;by_cases h:t.length<=s.length
 .have:decide ((t.length:Int)<=(s.length:Int))=true:=by simp;omega
  rw[this,w64_ns _ _ h (by omega),QAa (by omega)];simp only[cond_true,jAc,Option.some.injEq];rw[jBg,beq_iff_eq,jCt,List.suffix_iff_eq_drop];constructor <;> exact fun h=>h.symm
 have:decide ((t.length:Int)<=(s.length:Int))=false:=by simp;omega
 rw[this];simp only[cond_false,jAc,Option.some.injEq]
 symm
 rw[Bool.eq_false_iff];intro hp;exact h (jCt.1 hp).length_le
def chop(s:List UInt8):List UInt8:=if [13].isSuffixOf s then s.take (s.length - 1) else s
theorem z5b(s:List UInt8)(hs:s.length<=9223372036854775806):kya s [13]=some (chop s):=by
 unfold kya chop;rw[Vza s _ hs];cases h: [13].isSuffixOf s with
 | false=>rfl
 | true=>
  have hl:=(jCt.1 h).length_le;simp only[jBj,jCl]at hl;simp only[jAc,cond_true,jBj,jCl];rw[show ((s.length:Int) - ((0+1:Nat):Int))=((s.length - 1:Nat):Int) by omega,kUb _ (by omega),Wua (by omega)];rfl
def eol(b:List UInt8):Nat:=b.findIdx (· ==10)
theorem QKa(c:UInt8):∀b:List UInt8,Lib.indexByte b c=if b.findIdx (· ==c) < b.length then ((b.findIdx (· ==c):Nat):Int) else -1
 | []=>rfl
 | x::b=>by
  have ih:=QKa c b;unfold Lib.indexByte;rw[List.findIdx_cons,ih];cases hx:x==c with
  | true=>simp
  | false=>
   simp only[jAs,if_false,cond_false,jBj];by_cases h:b.findIdx (· ==c) < b.length
   .rw[if_pos h,if_neg (by simp),if_pos (by omega)];simp
   rw[if_neg h,if_pos (show ((-1:Int)== -1)=true from rfl),if_neg (by omega)]
def yra(b:List UInt8):List UInt8 × Nat:=if eol b < b.length then (chop (b.take (eol b)),eol b+1) else (b,b.length)
theorem Jta(b:List UInt8)(hb:b.length<=1048576):yYa b=some ((yra b).1,((yra b).2:Int)):=by
 unfold yYa yra qsa;simp only[jAc];rw[QKa,show b.findIdx (· ==10)=eol b from rfl];by_cases h:eol b < b.length
 .rw[if_pos h,if_pos h,decide_eq_false (by omega),cond_false,Wua (by omega)];simp only[jAc];rw[z5b _ (by simp;omega)];simp only[jAc];rw[w64_nl _ _ (show eol b+OfNat.ofNat 1<=_ by show eol b+1<=_;omega)]
 rw[if_neg h,if_neg h];rfl
theorem j0b{b:List UInt8}{i:Nat}(hi:i < b.length): [13].isSuffixOf (b.take i)=(decide (0 < i) && (b[i - 1]?).elim false (· ==13)):=by
 cases i with
 | zero=>simp
 | succ i=>
  rw[jCp,jAe (by omega:i < b.length)];simp only[Option.toList_some,Nat.succ_sub_one,Nat.zero_lt_succ,decide_true,jDn,Nat.add_sub_cancel];rw[jAe (by omega:i < b.length)];simp only[Option.elim_some];rw[jBg,jCt,beq_iff_eq];constructor
  .rintro ⟨t,ht⟩;have:=(List.append_inj' ht rfl).2;simpa using this.symm
  intro h;rw[h];exact ⟨_,rfl⟩
theorem V8a{R:Type}(c:UInt8)(r:Nat->R):∀(l:List UInt8) (n:Nat),kua (fun i x=>if x==c then some (r i) else none) n l=if l.findIdx (· ==c) < l.length then some (r (n+l.findIdx (· ==c))) else none
 | [],n=>rfl
 | x::l,n=>by
  unfold kua;rw[List.findIdx_cons];cases hx:x==c with
  | true=>simp
  | false=>
   simp only[jAs,if_false,cond_false,jBj];rw[V8a c r l (n+1)];by_cases h:l.findIdx (· ==c) < l.length
   .rw[if_pos h,if_pos (by omega),show n+1+l.findIdx (· ==c)=n+(l.findIdx (· ==c)+1) by omega]
   rw[if_neg h,if_neg (by omega)]
theorem z6b(b:List UInt8)(hb:b.length<=1048576):Zba b=some ((yra b).1,((yra b).2:Int)):=by
 unfold Zba;rw[qna b (fun i x=>if x==10 then some (chop (b.take i),((i+1:Nat):Int)) else none) (.inl ()) .inr]
 .rw[V8a];unfold yra;rw[show b.findIdx (· ==10)=eol b from rfl];by_cases h:eol b < b.length
  .rw[if_pos h,if_pos h];simp
  rw[if_neg h,if_neg h];rfl
 .unfold yoa;rw[kBa];rfl
 intro i c hc;have hi:=z6a hc;unfold yoa;rw[qVa hc,kla hc];simp only[cond_true,jAc];rw[u8_ne c 10 (by decide)];cases h10:c==10 with
 | false=>
  simp only[bne,h10,jDo,cond_true,jAs,if_false,Option.elim_none];rw[sc i (by omega)]
 | true=>
  simp only[bne,h10,jBo,cond_false,if_true,Option.elim_some];have hch:chop (b.take i)=if (decide (0 < i) && (b[i - 1]?).elim false (· ==13)) then b.take (i - 1) else b.take i:=by
   unfold chop;rw[j0b hi];split
   .rw[jCh,Nat.min_eq_left (by omega),List.take_take,Nat.min_eq_left (by omega)]
   rfl
  cases i with
  | zero=>
   rw[hch];rfl
  | succ i=>
   have e1:decide ((0:Int) < ((i+1:Nat):Int))=true:=by simp
   have e2:w64 (((i+1:Nat):Int) - 1)=((i:Nat):Int):=by rw[show (((i+1:Nat):Int) - 1)=((i:Nat):Int) by omega,kUb _ (by omega)]
   rw[e1,e2,jDa,jAe (by omega:i < b.length)];simp only[cond_true,jAc];rw[jda _ 13 (by decide),Wua (by omega),Wua (by omega),hch];simp only[Nat.add_sub_cancel,jAe (by omega:i < b.length),Option.elim_some,Nat.zero_lt_succ,decide_true,jDn];rw[sc (i+1) (by omega)];cases b[i]==13 <;> rfl
theorem YOa{b:List UInt8}(h:b≠ []):1<=(yra b).2/\(yra b).2<=b.length/\(yra b).1.length<=b.length:=by
 have:=jCr.2 h;unfold yra;split
 .refine ⟨by simp,by simp;omega,?_⟩;unfold chop;split <;> simp <;> omega
 exact ⟨this,jAm _,jAm _⟩
def wda(l:List UInt8):List UInt8:=(l.reverse.dropWhile zHa).reverse
theorem qab:(fun x=>([32,9]:List UInt8).contains x)=zHa:=by
 funext x;simp[zHa,List.contains,List.elem];cases h1:x==32 <;> cases h2:x==9 <;> simp_all
theorem Wza(s:Str)(hs:s.length<=9223372036854775807):kna s [32,9]=some (wda s):=by
 unfold kna Lib.trimRightS wda;rw[if_pos ⟨hs,by decide,rfl⟩,qab]
theorem J4a(c:UInt8):∀b:List UInt8,Lib.index b [c]=if b.findIdx (· ==c) < b.length then ((b.findIdx (· ==c):Nat):Int) else -1
 | []=>rfl
 | x::b=>by
  have ih:=J4a c b;unfold Lib.index;rw[List.findIdx_cons,ih];have hp:([c]:List UInt8).isPrefixOf (x::b)=(x==c):=by
   simp only[List.isPrefixOf,Bool.and_true];rw[jBg,beq_iff_eq,beq_iff_eq];exact eq_comm
  rw[hp];cases hx:x==c with
  | true=>simp
  | false=>
   simp only[jAs,if_false,cond_false,jBj];by_cases h:b.findIdx (· ==c) < b.length
   .rw[if_pos h,if_neg (by simp),if_pos (by omega)];simp
   rw[if_neg h,if_pos (show ((-1:Int)== -1)=true from rfl),if_neg (by omega)]
def colI(s:Str):Nat:=s.findIdx (· ==58)
def colP(s:Str):Str × Str × Bool:=if colI s < s.length then (wda (s.take (colI s)),s.drop (colI s+1),fnP (wda (s.take (colI s)))) else (wda s,[],false)
theorem Zna(s:Str):(wda s).length<=s.length:=by
 unfold wda;rw[List.length_reverse];have:=(List.dropWhile_sublist zHa (l:=s.reverse)).length_le;simpa using this
theorem j1b(s:Str):Lib.cut s [58]=if colI s < s.length then (s.take (colI s),s.drop (colI s+1),true) else (s,[],false):=by
 unfold Lib.cut;rw[J4a,show s.findIdx (· ==58)=colI s from rfl];by_cases h:colI s < s.length
 .rw[if_pos h,if_pos h,if_pos (by omega)];simp
 rw[if_neg h,if_neg h,if_neg (by omega)]
theorem WFa(s:Str)(hs:s.length<=1048576):v8a s=some (⟨(colP s).1,(colP s).2.1⟩,(colP s).2.2):=by
 unfold v8a k8a;rw[if_pos (by omega)];simp only[jAc];rw[j1b];unfold colP;by_cases h:colI s < s.length
 .rw[if_pos h,if_pos h];dsimp only;rw[Wza _ (by simp;omega)];simp only[jAc,cond_true];rw[jGa _ (by have:=Zna (s.take (colI s));simp at this;omega)];rfl
 rw[if_neg h,if_neg h];dsimp only;rw[Wza _ (by omega)];rfl
theorem j2b(n:Str)(hn:n.length<=1048576):(ZCa ⟨n,[]⟩==0)=fnP n:=by
 have h1:=jGa n hn;unfold vGa at h1;rw[jpa n [] hn (by simp)]at h1;simp only[jAc,zsa,Option.some.injEq]at h1;rw[<-h1];show (ZCa ⟨n,[]⟩==0)= !(ZCa ⟨n,[]⟩ !=0);simp[bne]
theorem J5a(l:Str)(x:UInt8):wda (l++ [x])=if zHa x then wda l else l++ [x]:=by
 unfold wda;rw[List.reverse_append,List.reverse_cons,List.reverse_nil,jCf,List.singleton_append,List.dropWhile_cons];split
 .rfl
 simp
theorem ykb(s:Str)(hs:s.length<=1048576)(i:Nat)(hi:i<=s.length):∃k:Nat,iter (yza s) (i:Int)=some (k:Int)/\k<=i/\s.take k=wda (s.take i):=by
 obtain ⟨r,h1,k,h2,h3,h4⟩:=Vpa (body:=yza s) (fun n=>∃m:Nat,n=(m:Int)/\m<=i/\wda (s.take m)=wda (s.take i)) (fun n=>n.toNat) (fun _ r=>∃k:Nat,r=(k:Int)/\k<=i/\s.take k=wda (s.take i)) (by
  rintro _ ⟨m,rfl,hm,he⟩;cases m with
  | zero=>exact .inl ⟨0,rfl,0,rfl,jBi _,he⟩
  | succ m=>
   have hml:m < s.length:=by omega
   have e1:decide ((0:Int) < ((m+1:Nat):Int))=true:=by simp
   have e2:w64 (((m+1:Nat):Int) - 1)=((m:Nat):Int):=by rw[show (((m+1:Nat):Int) - 1)=((m:Nat):Int) by omega,kUb _ (by omega)]
   have hb:yza s ((m+1:Nat):Int)=some (bif zHa s[m] then .cont (m:Int) else .out ((m+1:Nat):Int)):=by
    unfold yza;rw[e1,e2,jDa,jAe hml];simp only[cond_true,jAc,yya];cases zHa s[m] <;> rfl
   have ht:s.take (m+1)=s.take m++ [s[m]]:=by rw[jCp,jAe hml];rfl
   rw[ht,J5a]at he;rw[hb];cases hx:zHa s[m] with
   | true=>
    rw[hx,if_pos rfl]at he;exact .inr ⟨(m:Int),rfl,⟨m,rfl,by omega,he⟩,by simp,fun _ h=>h⟩
   | false=>
    rw[hx,if_neg (by simp)]at he;exact .inl ⟨((m+1:Nat):Int),rfl,m+1,rfl,hm,by rw[ht];exact he⟩) (i:Int) ⟨i,rfl,jAm _,rfl⟩
 subst h2;exact ⟨k,h1,h3,h4⟩
theorem J6a(s:Str)(hs:s.length<=1048576):YMa s=some (bif (colP s).2.2 then ((colP s).1,(colP s).2.1) else ([],[])):=by
 unfold YMa;rw[qna s (fun i x=>if x==58 then some (bif fnP (wda (s.take i)) then (wda (s.take i),s.drop (i+1)) else (([]:Str),([]:Str))) else none) (.inl ()) .inr]
 .rw[V8a];unfold colP;rw[show s.findIdx (· ==58)=colI s from rfl];by_cases h:colI s < s.length
  .rw[if_pos h,if_pos h];simp only[jCc,jAc,Option.elim_some,Sum.elim_inr]
  rw[if_neg h,if_neg h];rfl
 .unfold Qfa;rw[kBa];rfl
 intro i c hc;have hi:=z6a hc;unfold Qfa;rw[qVa hc,kla hc];simp only[cond_true,jAc];rw[u8_ne c 58 (by decide)];cases h10:c==58 with
 | false=>
  simp only[bne,h10,jDo,cond_true,jAs,if_false,Option.elim_none];rw[sc i (by omega)]
 | true=>
  simp only[bne,h10,jBo,cond_false,if_true,Option.elim_some];obtain ⟨k,h1,h2,h3⟩:=ykb s hs i (by omega);rw[h1];simp only[jAc];rw[Wua (by omega),h3];simp only[jAc];rw[QBa ⟨wda (s.take i),[]⟩ (by have:=Zna (s.take i);simp at this ⊢;omega) (by simp)];simp only[jAc];rw[j2b _ (by have:=Zna (s.take i);simp at this ⊢;omega),sc i (by omega),QAa (by omega)];cases fnP (wda (s.take i)) <;> rfl
theorem j3b{s:Str}(h:(colP s).2.2=true):(colP s).1≠ []:=by
 unfold colP at h ⊢;split
 .rename_i hc;rw[if_pos hc]at h;intro he;have h:fnP (wda (s.take (colI s)))=true:=h;have he:wda (s.take (colI s))=[]:=he;rw[he]at h;cases h
 rename_i hc;rw[if_neg hc]at h;cases h
theorem colP_len(s:Str):(colP s).1.length<=s.length/\(colP s).2.1.length<=s.length:=by
 unfold colP;split
 .refine ⟨?_,by simp⟩;have:=Zna (s.take (colI s));simp at this ⊢;omega
 exact ⟨Zna s,by simp⟩
def QXa(l:List UInt8):List UInt8:=l.dropWhile zHa
theorem J7a(x:UInt8)(l:Str):wda (x::l)=if zHa x=true/\wda l=[] then [] else x::wda l:=by
 unfold wda;rw[List.reverse_cons,List.dropWhile_append];cases h:(l.reverse.dropWhile zHa).isEmpty with
 | true=>
  have h0:l.reverse.dropWhile zHa=[]:=List.isEmpty_iff.1 h;rw[h0,List.dropWhile_cons];cases hx:zHa x <;> simp
 | false=>
  have h0:l.reverse.dropWhile zHa≠ []:=fun e=>by rw[e]at h;cases h
  simp[h0]
theorem qbb:∀l:Str,QXa (wda l)=wda (QXa l)
 | []=>rfl
 | x::l=>by
  have ih:=qbb l;rw[J7a];cases hx:zHa x with
  | false=>
   rw[if_neg (by simp)];unfold QXa;rw[List.dropWhile_cons_of_neg (by simp[hx]),List.dropWhile_cons_of_neg (by simp[hx]),J7a,if_neg (by simp[hx])]
  | true=>
   rw[show QXa (x::l)=QXa l by unfold QXa;rw[List.dropWhile_cons_of_pos hx],<-ih];split
   .rename_i h;rw[h.2]
   unfold QXa;rw[List.dropWhile_cons_of_pos hx]
def Zoa(v:Str):Str:=wda (QXa (v.map kea))
theorem V9a(v:Str):(Zoa v).length<=v.length:=by
 unfold Zoa QXa;have h1:=Zna ((v.map kea).dropWhile zHa);have h2:=(List.dropWhile_sublist zHa (l:=v.map kea)).length_le;simp at h2;omega
theorem Trim_eq(v:Str)(hs:v.length<=1048576):((zLa v).bind fun v48=>wXa v48 [32,9])=some (Zoa v):=by
 unfold zLa wXa Lib.trimS Lib.trimLeftS Lib.trimRightS;rw[if_pos (by omega)];simp only[jAc];rw[if_pos ⟨by simp;omega,by decide,rfl⟩,qab];show some (QXa (wda (v.map kea)))=_;rw[qbb];rfl
theorem cleaned1(s:Str)(hs:s.length<=1048576):iter (vQa s) (0,([]:List UInt8))=some (s.map kea):=by
 have h:=j1a s (fun i a=>(i,a)) (fun (a:List UInt8) c=>a++ [kea c]) id (fun i a=>a.length=i) (body:=vQa s) (fun a ha=>by
  unfold vQa;rw[kBa];rfl) (fun i c a hc ha=>by
  have hi:=z6a hc;refine ⟨?_,by simp[ha]⟩;unfold vQa;rw[qVa hc,kla hc];simp only[cond_true,jAc];rw[jda c 0 (by decide),jda c 13 (by decide)];have e:(bif c==0 then some true else some (c==13):Option Bool)=some (c==0 || c==13):=by cases c==0 <;> rfl
  rw[e];simp only[jAc];have e2:(bif (c==0 || c==13) then some (32:UInt8) else some c)=some (kea c):=by
   unfold kea;by_cases h0:c=0
   .subst h0;rfl
   by_cases h1:c=13
   .subst h1;rfl
   rw[beq_eq_false_iff_ne.2 h0,beq_eq_false_iff_ne.2 h1,if_neg (by simp[h0,h1])];rfl
  rw[e2];simp only[jAc];rw[qma (by simp;omega),sc i (by omega)];rfl) [] rfl
 rw[h.1];have:∀(l:Str) (a:List UInt8),l.foldl (fun a c=>a++ [kea c]) a=a++l.map kea:=by
  intro l;induction l with
  | nil=>intro a;simp
  | cons x l ih=>intro a;rw[List.foldl_cons,ih];simp
 rw[this];rfl
theorem wnb:∀(l:Str),l.length<=1048576->iter (wZa) l=some (QXa l)
 | [],_=>zXa rfl
 | x::l,h=>by
  have hb:wZa (x::l)=some (bif zHa x then .cont l else .out (x::l)):=by
   unfold wZa;rw[show decide ((0:Int) < ((x::l).length:Int))=true by simp,show idx (x::l) 0=some x from rfl];simp only[cond_true,jAc,yya];rw[show ((1:Int))=((1:Nat):Int) from rfl,QAa (by simp)];cases zHa x <;> rfl
  cases hx:zHa x with
  | true=>
   rw[hx]at hb;rw[kYa hb,wnb l (by simp at h;omega)];unfold QXa;rw[List.dropWhile_cons_of_pos hx]
  | false=>
   rw[hx]at hb;rw[zXa hb];unfold QXa;rw[List.dropWhile_cons_of_neg (by simp[hx])]
theorem cleaned3(n:Nat):∀(l:Str),l.length=n->l.length<=1048576->iter (w0a) l=some (wda l):=by
 induction n with
 | zero=>
  intro l hn _;have:=jCi hn;subst this;exact zXa rfl
 | succ n ih=>
  intro l hn h;obtain ⟨p,x,rfl⟩:∃p x,l=p++ [x]:=⟨l.dropLast,l.getLast (by rintro rfl;simp at hn),(List.dropLast_concat_getLast _).symm⟩;have hp:p.length=n:=by simpa using hn
  have hb:w0a (p++ [x])=some (bif zHa x then .cont p else .out (p++ [x])):=by
   unfold w0a;have e2:w64 (((p++ [x]).length:Int) - 1)=(p.length:Int):=by
    rw[show (((p++ [x]).length:Int) - 1)=(p.length:Int) by simp,kUb _ (by omega)]
   rw[show decide ((0:Int) < ((p++ [x]).length:Int))=true by simp,e2,idx_app p x []];simp only[cond_true,jAc,yya];rw[Wua (by simp)];simp only[List.take_left];cases zHa x <;> rfl
  rw[J5a];cases hx:zHa x with
  | true=>
   rw[hx]at hb;rw[kYa hb,ih p hp (by omega),if_pos rfl]
  | false=>
   rw[hx]at hb;rw[zXa hb,if_neg (by simp)]
theorem qcb(s:Str)(hs:s.length<=1048576):Kua s=some (Zoa s):=by
 unfold Kua;rw[cleaned1 s hs];simp only[jAc];have h2:(QXa (s.map kea)).length<=s.length:=by
  unfold QXa;have:=(List.dropWhile_sublist zHa (l:=s.map kea)).length_le;simpa using this
 rw[wnb _ (by simpa using hs)];simp only[jAc];rw[cleaned3 _ _ rfl (by omega)];rfl
def ZKa:Nat->List UInt8->List UInt8
 | 0,_=>[]
 | _+1,[]=>[]
 | n+1,c::r=>if c=13 then 13::10::ZKa n (if r.head? =some 10 then r.drop 1 else r) else if c=10 then 13::10::ZKa n r else c::ZKa n r
theorem YPa:∀(n:Nat) (l:List UInt8),(ZKa n l).length<=2 * n
 | 0,_=>by simp[ZKa]
 | n+1,[]=>by simp[ZKa]
 | n+1,c::r=>by
  unfold ZKa;split
  .have:=YPa n (if r.head? =some 10 then r.drop 1 else r);simp only[jBj];omega
  have:=YPa n r;split <;> simp only[jBj] <;> omega
theorem Waa:∀(n m:Nat) (l:List UInt8),l.length<=n->l.length<=m->ZKa n l=ZKa m l
 | 0,m,l,h,_=>by
  obtain rfl:=jCi (by omega:l.length=0);cases m <;> rfl
 | n+1,m,[],_,_=>by cases m <;> rfl
 | n+1,0,c::r,_,h=>by simp at h
 | n+1,m+1,c::r,h1,h2=>by
  simp only[jBj]at h1 h2;unfold ZKa;have hle:(if r.head? =some 10 then r.drop 1 else r).length<=r.length:=by
   split
   .simp
   exact jAm _
  have e1:=Waa n m (if r.head? =some 10 then r.drop 1 else r) (by omega) (by omega);have e2:=Waa n m r (by omega) (by omega);rw[e1,e2]
theorem qdb(b:List UInt8)(hb:b.length<=1048576){body:Int × List UInt8->Option (Step (Int × List UInt8) (List UInt8))}
 (h0:∀a,body ((b.length:Int),a)=some (.out a))
 (h1:∀(i:Nat) c a,b[i]? =some c->a.length<=3000000->body ((i:Int),a)=some (.cont (if c=13 then (((if b[i+1]? =some 10 then i+2 else i+1:Nat):Int),a++ [13,10]) else if c=10 then (((i+1:Nat):Int),a++ [13,10]) else (((i+1:Nat):Int),a++ [c])))):
 ∀(n i:Nat) (a:List UInt8),i+n=b.length->a.length<=2 * i->iter body ((i:Int),a)=some (a++ZKa n (b.drop i)):=by
 intro n;induction n using Nat.strongRecOn with
 | _ n ih=>
  intro i a hn ha;cases n with
  | zero=>
   obtain rfl:i=b.length:=by omega
   rw[zXa (h0 a)];simp[ZKa]
  | succ n=>
   have hi:i < b.length:=by omega
   have hd:b.drop i=b[i]::b.drop (i+1):=jCg hi;have hs:=h1 i b[i] a (jAe hi) (by omega);rw[kYa hs,hd];unfold ZKa;by_cases h13:b[i]=13
   .rw[if_pos h13,if_pos h13];have hh:(b.drop (i+1)).head? =b[i+1]? :=by rw[List.head?_drop]
    rw[hh];by_cases h10:b[i+1]? =some 10
    .rw[if_pos h10,if_pos h10];have hi1:=(jAd.1 h10).1;have:=ih (n - 1) (by omega) (i+2) (a++ [13,10]) (by omega) (by simp;omega);rw[this,List.drop_drop,Waa (n - 1) n _ (by simp;omega) (by simp;omega)];simp
    rw[if_neg h10,if_neg h10];have:=ih n (by omega) (i+1) (a++ [13,10]) (by omega) (by simp;omega);rw[this];simp
   rw[if_neg h13,if_neg h13];by_cases h10:b[i]=10
   .rw[if_pos h10,if_pos h10,ih n (by omega) (i+1) (a++ [13,10]) (by omega) (by simp;omega)];simp
   rw[if_neg h10,if_neg h10,ih n (by omega) (i+1) (a++ [b[i]]) (by omega) (by simp;omega)];simp
theorem YQa(c k:UInt8):(c==k)=decide (c=k):=by rw[jBg];simp
theorem j4b(b:List UInt8)(i:Nat)(hb:b.length<=1048576)(hi:i < b.length):(bif decide (w64 ((i:Int)+1) < (b.length:Int)) then (idx b (w64 ((i:Int)+1))).bind fun v11=>some ((v11.toNat:Int)==10) else some false)=some (decide (b[i+1]? =some 10)):=by
 rw[sc i (by omega)];by_cases h:i+1 < b.length
 .rw[decide_eq_true (by omega),jDa,jAe h];simp only[cond_true,jAc];rw[jda _ 10 (by decide),YQa]
  congr 1
  rw[jBg];simp
 rw[decide_eq_false (by omega),jCv (by omega)];rfl
theorem WGa(b:List UInt8)(hb:b.length<=1048576):v9a b=some (ZKa b.length b):=by
 unfold v9a;have:=qdb b hb (body:=qMa b) (fun a=>by unfold qMa;rw[kBa];rfl) (fun i c a hc ha=>by
  have hi:=z6a hc;unfold qMa;dsimp only;rw[qVa hc,kla hc,j4b b i hb hi];simp only[cond_true,jAc];rw[jda c 13 (by decide),jda c 10 (by decide),YQa,YQa];rw[qma (show a.length+([13,10]:List UInt8).length<=_ by simp;omega),qma (show a.length+ [c].length<=_ by simp;omega)];by_cases h13:c=13
  .rw[if_pos h13,decide_eq_true h13];simp only[cond_true,jAc];by_cases h10:b[i+1]? =some 10
   .rw[if_pos h10,decide_eq_true h10];simp only[cond_true,jAc];rw[sc i (by omega),sc (i+1) (by omega)]
   rw[if_neg h10,decide_eq_false h10];simp only[cond_false,jAc];rw[sc i (by omega)]
  rw[if_neg h13,decide_eq_false h13];simp only[cond_false,jAc];by_cases h10:c=10
  .rw[if_pos h10,decide_eq_true h10];simp only[cond_true,jAc];rw[sc i (by omega)]
  rw[if_neg h10,decide_eq_false h10];simp only[cond_false,jAc];rw[sc i (by omega)]) b.length 0 [] (by omega) (by simp)
 rw[show ((0:Int))=((0:Nat):Int) from rfl,this];rfl
theorem j5b(b:List UInt8)(hb:b.length<=1048576)(i:Nat)(hi:i<=b.length):iter (qSa b) ((i:Int),([]:List UInt8))=some (ZKa (b.drop i).length (b.drop i)):=by
 have:=qdb b hb (body:=qSa b) (fun a=>by unfold qSa;rw[kBa];rfl) (fun i c a hc ha=>by
  have hi:=z6a hc;unfold qSa;dsimp only;rw[qVa hc,kla hc,j4b b i hb hi];simp only[cond_true,jAc];rw[jda c 13 (by decide),jda c 10 (by decide),YQa,YQa];rw[qma (show a.length+([13,10]:List UInt8).length<=_ by simp;omega),qma (show a.length+ [c].length<=_ by simp;omega)];by_cases h13:c=13
  .rw[if_pos h13,decide_eq_true h13];simp only[cond_true,jAc];by_cases h10:b[i+1]? =some 10
   .rw[if_pos h10,decide_eq_true h10];simp only[cond_true,jAc];rw[sc i (by omega),sc (i+1) (by omega)]
   rw[if_neg h10,decide_eq_false h10];simp only[cond_false,jAc];rw[sc i (by omega)]
  rw[if_neg h13,decide_eq_false h13];simp only[cond_false,jAc];by_cases h10:c=10
  .rw[if_pos h10,decide_eq_true h10];simp only[cond_true,cond_false,jAc];rw[sc i (by omega)]
  rw[if_neg h10,decide_eq_false h10];simp only[cond_false,jAc];rw[sc i (by omega)]) (b.drop i).length i [] (by simp;omega) (by simp)
 rw[this];rfl
def vGb{S R:Type}(step:S->S ⊕ R)(dflt:R):Nat->S->R
 | 0,_=>dflt
 | n+1,s=>match step s with | .inl s' =>vGb step dflt n s' | .inr r=>r
theorem VAa{S R A B:Type}(enc:S->A)(out:R->B)(step:S->S ⊕ R)(dflt:R)(Inv:S->Prop)(m:S->Nat){body:A->Option (Step A B)}
 (h:∀s,Inv s->body (enc s)=some (Sum.elim (fun s' =>.cont (enc s')) (fun r=>.out (out r)) (step s))/\∀s',step s=.inl s' ->Inv s' /\m s' < m s):
 ∀(n:Nat) (s:S),Inv s->m s < n->iter body (enc s)=some (out (vGb step dflt n s)):=by
 intro n;induction n with
 | zero=>intro s _ h2;omega
 | succ n ih=>
  intro s hs hm;obtain ⟨h1,h2⟩:=h s hs;unfold vGb;cases hst:step s with
  | inl s' =>
   rw[hst]at h1;obtain ⟨h3,h4⟩:=h2 s' hst;rw[kYa h1];exact ih s' h3 (by omega)
  | inr r=>
   rw[hst]at h1;exact zXa h1
theorem qeb{S R:Type}(step:S->S ⊕ R)(dflt:R)(Inv:S->Prop)(Post:R->Prop)(m:S->Nat)
 (h:∀s,Inv s->(∀s',step s=.inl s' ->Inv s' /\m s' < m s)/\∀r,step s=.inr r->Post r):∀(n:Nat) (s:S),Inv s->m s < n->Post (vGb step dflt n s):=by
 intro n;induction n with
 | zero=>intro s _ h2;omega
 | succ n ih=>
  intro s hs hm;obtain ⟨h1,h2⟩:=h s hs;unfold vGb;cases hst:step s with
  | inl s' =>exact ih s' (h1 s' hst).1 (by have:=(h1 s' hst).2;omega)
  | inr r=>exact h2 r hst
def QYa(l:List zba)(t:Str):List zba:=match l[l.length - 1]? with
 | some f=>l.set (l.length - 1) ⟨f.Name,f.Value++t⟩
 | none=>l
def Kza(b:List UInt8)(s:Nat × List zba):(Nat × List zba) ⊕ (Nat × List zba):=
 if s.1 < b.length then
  match (yra (b.drop s.1)).1 with
  | []=>.inr (s.1+(yra (b.drop s.1)).2,s.2)
  | c::_=>if zHa c=true/\s.2≠ [] then .inl (s.1+(yra (b.drop s.1)).2,QYa s.2 (yra (b.drop s.1)).1)
   else if (colP (yra (b.drop s.1)).1).2.2=true then .inl (s.1+(yra (b.drop s.1)).2,s.2++ [⟨(colP (yra (b.drop s.1)).1).1,(colP (yra (b.drop s.1)).1).2.1⟩])
   else .inr s
 else .inr s
def HInv(b:List UInt8)(s:Nat × List zba):Prop:=s.1<=b.length/\s.2.length<=s.1/\∀f∈s.2,f.Name.length<=s.1/\f.Value.length<=s.1
theorem YRa(b:List UInt8):(yra b).1.length<=(yra b).2:=by
 unfold yra;split
 .unfold chop;split <;> simp <;> omega
 exact jAm _
theorem YSa{l:List zba}(h:l≠ []):∃f,l[l.length - 1]? =some f/\f∈l:=by
 have:=jCr.2 h;exact ⟨l[l.length - 1]'(by omega),jAe (by omega),jDi _⟩
theorem YTa{b:List UInt8}{s:Nat × List zba}(h:HInv b s):(∀s',Kza b s=.inl s' ->HInv b s' /\b.length - s'.1 < b.length - s.1)/\∀r,Kza b s=.inr r->HInv b r:=by
 obtain ⟨h1,h2,h3⟩:=h;unfold Kza;by_cases hl:s.1 < b.length
 .rw[if_pos hl];have hne:b.drop s.1≠ []:=by
   intro e;have:=congrArg List.length e;simp at this;omega
  obtain ⟨p1,p2,p3⟩:=YOa hne;have p4:=YRa (b.drop s.1);rw[jCu]at p2;generalize yra (b.drop s.1)=L at p1 p2 p3 p4;obtain ⟨t,n⟩:=L;dsimp only at p1 p2 p3 p4 ⊢;cases t with
  | nil=>
   refine ⟨fun s' e=>(by cases e),fun r e=>?_⟩;cases e;exact ⟨by show s.1+n<=_;omega,by show s.2.length<=s.1+n;omega,fun f hf=>by have:=h3 f hf;show _<=s.1+n/\_<=s.1+n;omega⟩
  | cons c t=>
   dsimp only;by_cases hb:zHa c=true/\s.2≠ []
   .rw[if_pos hb];refine ⟨fun s' e=>?_,fun r e=>by cases e⟩;cases e;obtain ⟨f,hf,hm⟩:=YSa hb.2;have hset:QYa s.2 (c::t)=s.2.set (s.2.length - 1) ⟨f.Name,f.Value++(c::t)⟩:=by unfold QYa;rw[hf]
    refine ⟨⟨by show s.1+n<=_;omega,?_,fun g hg=>?_⟩,by show b.length - (s.1+n) < _;omega⟩
    .show (QYa s.2 (c::t)).length<=s.1+n;rw[hset,List.length_set];omega
    have hg:g∈QYa s.2 (c::t):=hg;rw[hset]at hg;show _<=s.1+n/\_<=s.1+n;rcases jDg hg with h4 | rfl
    .have:=h3 g h4;omega
    have:=h3 f hm;simp only[jBs];omega
   rw[if_neg hb];by_cases hc:(colP (c::t)).2.2=true
   .rw[if_pos hc];refine ⟨fun s' e=>?_,fun r e=>by cases e⟩;cases e;obtain ⟨q1,q2⟩:=colP_len (c::t);refine ⟨⟨by show s.1+n<=_;omega,by simp;omega,fun g hg=>?_⟩,by show b.length - (s.1+n) < _;omega⟩;rcases jCk.1 hg with h4 | h4
    .have:=h3 g h4;show _<=s.1+n/\_<=s.1+n;omega
    rw[jCd]at h4;subst h4;show _<=s.1+n/\_<=s.1+n;dsimp only;omega
   rw[if_neg hc];exact ⟨fun s' e=>(by cases e),fun r e=>(by cases e;exact ⟨h1,h2,h3⟩)⟩
 rw[if_neg hl];exact ⟨fun s' e=>(by cases e),fun r e=>(by cases e;exact ⟨h1,h2,h3⟩)⟩
def encH(s:Nat × List zba):Int × List zba:=((s.1:Int),s.2)
theorem wob{l:List zba}(h:l≠ [])(hl:l.length<=1048576):w64 ((l.length:Int) - 1)=((l.length - 1:Nat):Int):=by
 have:=jCr.2 h;rw[show ((l.length:Int) - 1)=((l.length - 1:Nat):Int) by omega,kUb _ (by omega)]
theorem j6b(b:List UInt8)(hb:b.length<=12000)(s:Nat × List zba)(h:HInv b s):vsa b (encH s)=some (Sum.elim (fun s' =>.cont (encH s')) (fun r=>.out (encH r)) (Kza b s)):=by
 obtain ⟨h1,h2,h3⟩:=h;unfold vsa Kza encH;by_cases hl:s.1 < b.length
 .rw[if_pos hl,decide_eq_true (by omega)];have hne:b.drop s.1≠ []:=by
   intro e;have:=congrArg List.length e;simp at this;omega
  obtain ⟨p1,p2,p3⟩:=YOa hne;have p4:=YRa (b.drop s.1);have hline:=Jta (b.drop s.1) (by simp;omega);rw[jCu]at p2 p3;simp only[cond_true];rw[QAa (by omega)];simp only[jAc];rw[hline];generalize yra (b.drop s.1)=L at p1 p2 p3 p4;obtain ⟨t,n⟩:=L;dsimp only at p1 p2 p3 p4 ⊢;simp only[jAc];rw[jCb _ _ (by omega)];cases t with
  | nil=>rfl
  | cons c t=>
   rw[show ((c::t)==([]:Str))=false from rfl,show idx (c::t) 0=some c from rfl];simp only[cond_false,jAc,jFa];have e0:(bif zHa c then some (decide ((0:Int) < (s.2.length:Int))) else some false)=some (decide (zHa c=true/\s.2≠ [])):=by
    cases zHa c with
    | false=>rfl
    | true=>
     simp only[cond_true,Option.some.injEq];rw[jBg];simp[jCr]
   rw[e0];simp only[jAc];by_cases hbl:zHa c=true/\s.2≠ []
   .rw[if_pos hbl,decide_eq_true hbl];obtain ⟨f,hf,hm⟩:=YSa hbl.2;have hv:=h3 f hm;simp only[cond_true];rw[wob hbl.2 (by omega),jDa,hf];simp only[jAc];rw[JWa (by omega)];simp only[jAc];unfold QYa;rw[hf];rfl
   rw[if_neg hbl,decide_eq_false hbl];simp only[cond_false];rw[WFa _ (by omega)];simp only[jAc];cases hc:(colP (c::t)).2.2 with
   | false=>rfl
   | true=>
    rw[if_pos rfl];simp only[jBo,cond_false];rw[qma (by simp;omega)];rfl
 rw[if_neg hl,decide_eq_false (by omega)];rfl
theorem ref_body(b:List UInt8)(hb:b.length<=12000)(s:Nat × List zba)(h:HInv b s):vua b (encH s)=some (Sum.elim (fun s' =>.cont (encH s')) (fun r=>.out (encH r)) (Kza b s)):=by
 obtain ⟨h1,h2,h3⟩:=h;unfold vua Kza encH;by_cases hl:s.1 < b.length
 .rw[if_pos hl,decide_eq_true (by omega)];have hne:b.drop s.1≠ []:=by
   intro e;have:=congrArg List.length e;simp at this;omega
  obtain ⟨p1,p2,p3⟩:=YOa hne;have p4:=YRa (b.drop s.1);have hline:=z6b (b.drop s.1) (by simp;omega);rw[jCu]at p2 p3;simp only[cond_true];rw[QAa (by omega)];simp only[jAc];rw[hline];generalize yra (b.drop s.1)=L at p1 p2 p3 p4;obtain ⟨t,n⟩:=L;dsimp only at p1 p2 p3 p4 ⊢;simp only[jAc];rw[jCb _ _ (by omega)];cases t with
  | nil=>rfl
  | cons c t=>
   rw[show ((c::t)==([]:Str))=false from rfl,show idx (c::t) 0=some c from rfl];simp only[cond_false,jAc,yya];by_cases hs:s.2=[]
   .have e1:w64 ((s.2.length:Int) - 1)= -1:=by rw[hs];rfl
    rw[e1,if_neg (fun e=>e.2 hs)];have e0:(bif zHa c then some ((-1:Int),decide ((0:Int)<= -1)) else some (-1,false))=some (-1,false):=by cases zHa c <;> rfl
    rw[e0];simp only[jAc,cond_false];rw[J6a _ (by omega)];simp only[jAc];cases hc:(colP (c::t)).2.2 with
    | false=>rfl
    | true=>
     have hn:=j3b hc;rw[if_pos rfl];simp only[cond_true];rw[beq_eq_false_iff_ne.2 hn];simp only[cond_false];rw[qma (by simp;omega)];rfl
   rw[wob hs (by omega)];have e0:(bif zHa c then some (((s.2.length - 1:Nat):Int),decide ((0:Int)<=((s.2.length - 1:Nat):Int))) else some (((s.2.length - 1:Nat):Int),false))=some (((s.2.length - 1:Nat):Int),zHa c):=by
    cases zHa c with
    | false=>rfl
    | true=>simp only[cond_true];rw[decide_eq_true (by omega)]
   rw[e0];simp only[jAc];cases hbl:zHa c with
   | true=>
    rw[if_pos ⟨rfl,hs⟩];obtain ⟨f,hf,hm⟩:=YSa hs;have hv:=h3 f hm;simp only[cond_true];rw[jDa,hf];simp only[jAc];rw[JWa (by omega)];simp only[jAc];unfold QYa;rw[hf];rfl
   | false=>
    rw[if_neg (by simp)];simp only[cond_false];rw[J6a _ (by omega)];simp only[jAc];cases hc:(colP (c::t)).2.2 with
    | false=>rfl
    | true=>
     have hn:=j3b hc;rw[if_pos rfl];simp only[cond_true];rw[beq_eq_false_iff_ne.2 hn];simp only[cond_false];rw[qma (by simp;omega)];rfl
 rw[if_neg hl,decide_eq_false (by omega)];rfl
def vya(b:List UInt8):Nat × List zba:=vGb (Kza b) (0,[]) (b.length+1) (0,[])
theorem hinv0(b:List UInt8):HInv b (0,[]):=⟨jBi _,jAm _,fun f hf=>by cases hf⟩
theorem VBa(b:List UInt8):HInv b (vya b):=qeb (Kza b) (0,[]) (HInv b) (HInv b) (fun s=>b.length - s.1) (fun s hs=>YTa hs) _ _ (hinv0 b) (by show b.length - 0 < _;omega)
theorem qfb(b:List UInt8)(hb:b.length<=12000):iter (vsa b) ((0,([]:List zba)))=some (encH (vya b)):=
 VAa encH encH (Kza b) (0,[]) (HInv b) (fun s=>b.length - s.1) (fun s hs=>⟨j6b b hb s hs,(YTa hs).1⟩) _ (0,[]) (hinv0 b) (by show b.length - 0 < _;omega)
theorem ylb(b:List UInt8)(hb:b.length<=12000):iter (vua b) ((0,([]:List zba)))=some (encH (vya b)):=
 VAa encH encH (Kza b) (0,[]) (HInv b) (fun s=>b.length - s.1) (fun s hs=>⟨ref_body b hb s hs,(YTa hs).1⟩) _ (0,[]) (hinv0 b) (by show b.length - 0 < _;omega)
def vza(f:zba):zba:=⟨f.Name,Zoa f.Value⟩
def mixF(l:List zba)(i:Nat):List zba:=(l.take i).map vza++l.drop i
theorem j7b{l:List zba}{i:Nat}{x:zba}(h:l[i]? =some x):(mixF l i)[i]? =some x:=by
 have hi:=(jAd.1 h).1;unfold mixF;rw[jAq (by simp;omega)];simp only[jAx,jCh,jBu];rw[show i+(i - min i l.length)=i by omega];exact h
theorem wpb(l:List zba)(i:Nat):(mixF l i).length=l.length:=by simp[mixF];omega
theorem qgb{l:List zba}{i:Nat}{x:zba}(h:l[i]? =some x):(mixF l i).set i (vza x)=mixF l (i+1):=by
 have hi:=(jAd.1 h).1;have hx:=(jAd.1 h).2;unfold mixF;rw[List.set_append_right _ _ (by simp;omega)];simp only[jAx,jCh];rw[show i - min i l.length=0 by omega,jCp,h,jCg hi,hx];simp
theorem wqb(l:List zba):mixF l l.length=l.map vza:=by simp[mixF]
theorem qhb(l:List zba):mixF l 0=l:=by simp[mixF]
def j8b(l:List zba)(i:Nat):Nat ⊕ Option Nat:=match l[i]? with
 | some f=>if 4000 < (Zoa f.Value).length then .inr (some i) else .inl (i+1)
 | none=>.inr none
def vout(l:List zba):Option Nat->(List zba) ⊕ ((List zba) × Int × zja)
 | none=>.inl (l.map vza)
 | some i=>.inr ([],0,⟨1,(i:Int)⟩)
def j9b(l:List zba):Option Nat:=vGb (j8b l) none (l.length+1) 0
theorem qib(p:Int × List zba)(hl:p.2.length<=1048576)(hv:∀f∈p.2,f.Value.length<=1048576):iter (vta p) ((0,p.2))=some (vout p.2 (j9b p.2)):=by
 have h:=VAa (fun i:Nat=>((i:Int),mixF p.2 i)) (vout p.2) (j8b p.2) none (fun i=>i<=p.2.length) (fun i=>p.2.length - i) (body:=vta p) (fun i hi=>?_) (p.2.length+1) 0 (jBi _) (by omega)
 .rw[qhb]at h;exact h
 unfold vta j8b;cases hf:p.2[i]? with
 | none=>
  have:i=p.2.length:=by have:=List.getElem?_eq_none_iff.1 hf;omega
  subst this;dsimp only;rw[decide_eq_false (by omega),wqb];exact ⟨rfl,fun s' e=>by cases e⟩
 | some f=>
  have hi2:=z6a hf;have hfv:=hv f (jAi hf);dsimp only;rw[decide_eq_true (by omega),kla (j7b hf)];simp only[cond_true,jAc];have ht:=Trim_eq f.Value hfv;have hlt:(Zoa f.Value).length<=1048576:=jAt (V9a _) hfv;cases hr:zLa f.Value with
  | none=>rw[hr]at ht;cases ht
  | some v=>
   rw[hr]at ht;simp only[jAc]at ht ⊢;rw[ht];simp only[jAc];by_cases h4:4000 < (Zoa f.Value).length
   .rw[if_pos h4,decide_eq_true (by omega)];exact ⟨rfl,fun s' e=>by cases e⟩
   rw[if_neg h4,decide_eq_false (by omega)];simp only[cond_false];rw[sc i (by omega),Int.toNat_natCast];refine ⟨?_,fun s' e=>by cases e;exact ⟨by omega,by omega⟩⟩;rw[show (⟨f.Name,Zoa f.Value⟩:zba)=vza f from rfl,qgb hf];rfl
theorem vals_ref(l:List zba)(hl:l.length<=1048576)(hv:∀f∈l,f.Value.length<=1048576):iter (vva) ((0,l))=some (l.map vza):=by
 have h:=VAa (fun i:Nat=>((i:Int),mixF l i)) (fun _:Unit=>l.map vza) (fun i=>if i < l.length then .inl (i+1) else .inr ()) () (fun i=>i<=l.length) (fun i=>l.length - i) (body:=vva) (fun i hi=>?_) (l.length+1) 0 (jBi _) (by omega)
 .rw[qhb]at h;exact h
 unfold vva;by_cases hi2:i < l.length
 .have hf:l[i]? =some l[i]:=jAe hi2;rw[if_pos hi2];dsimp only;rw[wpb,decide_eq_true (by omega),kla (j7b hf)];simp only[cond_true,jAc];rw[qcb _ (hv _ (jDi _))];simp only[jAc];rw[sc i (by omega),Int.toNat_natCast];refine ⟨?_,fun s' e=>by cases e;exact ⟨by omega,by omega⟩⟩;rw[show (⟨l[i].Name,Zoa l[i].Value⟩:zba)=vza l[i] from rfl,qgb hf];rfl
 rw[if_neg hi2];obtain rfl:i=l.length:=by omega
 dsimp only;rw[wpb,decide_eq_false (by omega),wqb];exact ⟨rfl,fun s' e=>by cases e⟩
theorem ymb(l:List zba):(j9b l=none->∀f∈l,(vza f).Value.length<=4000)/\(j9b l≠none->∃f∈l,4000 < (vza f).Value.length):=by
 refine qeb (j8b l) none (fun i=>i<=l.length/\∀j f,j < i->l[j]? =some f->(vza f).Value.length<=4000) (fun r=>(r=none->∀f∈l,(vza f).Value.length<=4000)/\(r≠none->∃f∈l,4000 < (vza f).Value.length)) (fun i=>l.length - i) ?_ _ 0 ⟨jBi _,fun j f h=>by omega⟩ (by omega);rintro i ⟨hi,hj⟩;unfold j8b;cases hf:l[i]? with
 | none=>
  refine ⟨fun s' e=>(by cases e),fun r e=>?_⟩;cases e;refine ⟨fun _ f hm=>?_,fun h=>absurd rfl h⟩;obtain ⟨j,hjf⟩:=jCo hm;have:=List.getElem?_eq_none_iff.1 hf;exact hj j f (by have:=z6a hjf;omega) hjf
 | some f=>
  dsimp only;by_cases h4:4000 < (Zoa f.Value).length
  .rw[if_pos h4];refine ⟨fun s' e=>(by cases e),fun r e=>?_⟩;cases e;exact ⟨fun h=>(by cases h),fun _=>⟨f,jAi hf,h4⟩⟩
  rw[if_neg h4];refine ⟨fun s' e=>?_,fun r e=>by cases e⟩;cases e;have:=z6a hf;refine ⟨⟨by omega,fun j g hji hg=>?_⟩,by omega⟩;by_cases e:j=i
  .subst e;rw[hf]at hg;cases hg;exact Nat.le_of_not_lt h4
  exact hj j g (by omega) hg
def zeroM:zda:=⟨[],[]⟩
def rawM(b:List UInt8):zda:=⟨(vya b).2.map vza,ZKa (b.drop (vya b).1).length (b.drop (vya b).1)⟩
def jea(b:List UInt8):zda × Bool:=
 if 60 < (vya b).2.length then (zeroM,false) else if (msgF (rawM b)).Code=0 then (rawM b,true) else (zeroM,false)
theorem Wba(b:List UInt8)(hb:b.length<=12000):QCa (rawM b):=by
 obtain ⟨h1,h2,h3⟩:=VBa b;refine ⟨⟨by show ((vya b).2.map vza).length<=_;simp;omega,fun f hf=>?_⟩,?_⟩
 .have hf:f∈(vya b).2.map vza:=hf;obtain ⟨g,hg,rfl⟩:=jCe.1 hf;have:=h3 g hg;have h4:=V9a g.Value;show g.Name.length<=_/\(Zoa g.Value).length<=_;omega
 show (ZKa _ _).length<=_;have:=YPa (b.drop (vya b).1).length (b.drop (vya b).1);simp at this ⊢;omega
theorem Jua(b:List UInt8)(hb:b.length<=12000):wsa b=some (jea b):=by
 obtain ⟨h1,h2,h3⟩:=VBa b;unfold wsa;rw[ylb b hb];simp only[jAc,encH];unfold jea;by_cases h60:60 < (vya b).2.length
 .rw[if_pos h60,decide_eq_true (by omega)];rfl
 rw[if_neg h60,decide_eq_false (by omega)];simp only[cond_false];rw[vals_ref _ (by omega) (fun f hf=>by have:=h3 f hf;omega)];simp only[jAc];rw[j5b b (by omega) _ h1];simp only[jAc];rw[show (⟨(vya b).2.map vza,ZKa (b.drop (vya b).1).length (b.drop (vya b).1)⟩:zda)=rawM b from rfl,j8a _ (Wba b hb)];simp only[jAc];by_cases h0:(msgF (rawM b)).Code=0
 .rw[if_pos h0,h0];rfl
 rw[if_neg h0,bne_iff_ne.2 h0];rfl
theorem YUa(b:List UInt8)(hb:b.length<=12000):∃f:zja,wYa b=some ((jea b).1,f)/\(f.Code !=0)= !(jea b).2:=by
 obtain ⟨h1,h2,h3⟩:=VBa b;unfold wYa vIa;rw[decide_eq_false (by omega),qfb b hb];simp only[cond_false,jAc,encH];unfold jea;by_cases h60:60 < (vya b).2.length
 .rw[if_pos h60,decide_eq_true (by omega)];exact ⟨⟨2, -2⟩,rfl,rfl⟩
 rw[if_neg h60,decide_eq_false (by omega)];simp only[cond_false];rw[qib ((((vya b).1:Nat):Int),(vya b).2) (by show (vya b).2.length<=_;omega) (fun f hf=>by have:=h3 f hf;omega)];simp only[jAc];obtain ⟨v1,v2⟩:=ymb (vya b).2;cases hv:j9b (vya b).2 with
 | none=>
  simp only[vout,Sum.elim_inl,qCa,jAc,zsa];rw[show ((0:Int) !=0)=false from rfl];simp only[cond_false];rw[QAa h1];simp only[jAc];rw[WGa _ (by simp;omega)];simp only[jAc];rw[show (⟨(vya b).2.map vza,ZKa (b.drop (vya b).1).length (b.drop (vya b).1)⟩:zda)=rawM b from rfl,kPa _ (Wba b hb)];simp only[jAc];by_cases h0:(msgF (rawM b)).Code=0
  .rw[if_pos h0,h0];exact ⟨⟨0,0⟩,rfl,rfl⟩
  rw[if_neg h0,bne_iff_ne.2 h0];exact ⟨msgF (rawM b),rfl,by rw[bne_iff_ne.2 h0];rfl⟩
 | some i=>
  have h0:¬(msgF (rawM b)).Code=0:=by
   intro h0;obtain ⟨f,hf,h4⟩:=v2 (by rw[hv];simp);have hh:(wja (rawM b).Fields).Code=0:=by
    by_cases hz:(wja (rawM b).Fields).Code=0
    .exact hz
    unfold msgF at h0;rw[if_pos (by simp[hz])]at h0;exact h0
   have:=(z1b ((j6a _ hh).2.2 (vza f) (jCe.2 ⟨f,hf,rfl⟩))).2.1;omega
  rw[if_neg h0];exact ⟨⟨1,(i:Int)⟩,rfl,rfl⟩
theorem low_add(c:UInt8):c+97 - 65=c+32:=by
 rw[<-jDj];have:=c.toNat_lt;simp only[UInt8.toNat_add,UInt8.toNat_sub,UInt8.reduceToNat];omega
theorem J8a(s:Str)(hs:s.length<=1048576):V5a s=some (lowP s):=by
 unfold V5a lowP;have:=(j1a s (fun i (o:List UInt8)=>(i,o)) (fun o c=>o++ [lowC c]) id (fun i o=>o.length<=i) (body:=j9a s)
  (fun o _=>by unfold j9a;simp[kBa]) (fun i c o hx hi=>by
   have hlt:=z6a hx;refine ⟨?_,by simp;omega⟩;unfold j9a;dsimp only;rw[qVa hx,kla hx];simp only[cond_true,jAc,zSb,wfb 65 c (by decide),wgb 90 c (by decide),sc i (by omega)];have hl:((bif (decide ((65:UInt8)<=c) && decide (c<=90)) then some (c+32) else some c):Option UInt8)=some (lowC c):=by
    unfold lowC;rw[low_add];cases decide ((65:UInt8)<=c) && decide (c<=90) <;> rfl
   rw[hl];simp only[jAc];rw[qma (by simp;omega)];rfl) [] (by simp)).1
 rw[this,map_fold];simp
theorem Zab(a b:Str)(ha:a.length<=1048576)(hb:b.length<=1048576):k4b a b=some (Vua a b):=by
 unfold k4b Vua;rw[J8a a ha,J8a b hb];rfl
theorem YVa(m:zda)(n:Str)(hm:QCa m)(hn:n.length<=1048576):vBa m n=some (getP m.Fields n):=by
 unfold vBa;have:=(j1a m.Fields (fun i (s:List Str)=>(i,s)) (fun o (f:zba)=>if Vua f.Name n then o++ [f.Value] else o) id (fun i s=>s.length<=i) (body:=yNa m n)
  (fun s _=>by unfold yNa;simp[kBa]) (fun i f s hf hi=>by
   have hlt:=z6a hf;have hcap:=hm.1.1;have hfs:=hm.1.2 f (jAi hf);refine ⟨?_,by split <;> (try simp) <;> omega⟩;unfold yNa;dsimp only;rw[qVa hf,kla hf];simp only[cond_true,jAc,sc i (by omega),Zab _ _ hfs.1 hn];cases Vua f.Name n with
   | false=>rfl
   | true=>
    simp only[cond_true,if_true];rw[qma (by simp;omega)];rfl) [] (by simp)).1
 rw[this,wkb];simp
theorem VCa(m:zda)(hf:m.Fields.length<=1048576):v5a m m=some true:=by
 unfold v5a;have e1:((m.Fields.length:Int) !=(m.Fields.length:Int))=false:=by simp
 have e2:(m.Body !=m.Body)=false:=by simp
 rw[e1,e2];simp only[cond_false,jAc];rw[qna m.Fields (fun _ _=>none) (.inl ()) .inr]
 .have:kua (fun _ _=>(none:Option Bool)) 0 m.Fields=none:=by rw[QSa];intro i x _;rfl
  simp only[jAc];rw[this];rfl
 .unfold vAa;rw[kBa];rfl
 intro i f hx;have hi:=z6a hx;unfold vAa;rw[qVa hx,kla hx];simp only[cond_true,jAc,sc i (by omega)];simp[Z4a]
instance:DecidableEq (Step (Int × List Str) (List Str)):=fun a b=>match a,b with
 | .cont x,.cont y=>decidable_of_iff (x=y) (by simp)
 | .out x,.out y=>decidable_of_iff (x=y) (by simp)
 | .cont x,.out y=>isFalse (by simp)
 | .out x,.cont y=>isFalse (by simp)
abbrev Ses:=kpa
def cv(x:Ses):zFa:=⟨x.Server,x.replies,x.mails⟩
theorem ynb{α:Type}{lim:Nat}(l:List α)(h:l.length<=lim):(nilE l.isEmpty (some ([]:List α)) ((app lim ([]:List α) l).bind fun v=>some v))=some l:=by
 rw[ktb]
 .rw[qma (by simpa using h)];rfl
 intro he;have:=List.isEmpty_iff.1 he;subst this;rw[qma (by simp)];rfl
theorem vHb(l:List UInt8)(h:l.length<=1048576):kja l=some l:=ynb l (by omega)
theorem band15(a:UInt8):(bAnd a 15).toNat<=15:=by
 have h:∀n:Fin 256,(bAnd (UInt8.ofNat n.val) 15).toNat<=15:=by decide+kernel
 have:=h ⟨a.toNat,jDe a⟩;simpa using this
theorem qjb(a:UInt8):Tot (wva a) fun _=>True:=by
 unfold wva;have:=band15 a;exact (zEa (by omega) (by simp;omega)).bind fun _ _=>.ret trivial
theorem w64_m1n{n:Nat}(h1:1<=n)(h2:n<=1000000000):w64 ((n:Int) - 1)=(n:Int) - 1:=vna (by omega) (by omega)
theorem yob(v:Str)(h:v.length<=500):Tot (w2a v) fun r=>r.length<=501/\∀p∈r,p.length<=60:=by
 unfold w2a;refine Tot.bind (P:=fun r:List Str=>r.length<=501/\∀p∈r,p.length<=60) (zRa (fun t:Int × List Str=>0<=t.1/\t.1<=v.length/\1<=t.2.length/\(t.2.length:Int)<=t.1+1/\∀p∈t.2,p.length<=60) (fun t:Int × List Str=>(v.length - t.1).toNat) (fun t ht=>?_) _ ⟨jBe _,by show (0:Int)<=_;omega,by decide,by decide,fun p hp=>by rw[jCd.1 hp];decide⟩) fun r hr=>.ret hr
 obtain ⟨i,o⟩:=t;obtain ⟨h0,hi,h1,ho,hm⟩:=ht;dsimp only at h0 hi h1 ho hm;unfold y1a;dsimp only;refine .cond (fun hd=>?_) fun _=>.ret ⟨by show o.length<=_;omega,hm⟩
 have hd:=of_decide_eq_true hd;rw[kSa h0 (by omega),w64_m1n h1 (by omega)];have last:Tot (idx o ((o.length:Int) - 1)) fun x=>x.length<=60:=(zEa (by omega) (by omega)).imp fun x hx=>hm x hx.1
 refine Tot.bind (P:=fun r:List Str=>1<=r.length/\(r.length:Int)<=i+2/\∀p∈r,p.length<=60) ?_ fun r hr=>.ret ⟨⟨by show 0<=i+1;omega,by show i+1<=_;omega,hr.1,by show (r.length:Int)<=i+1+1;omega,hr.2.2⟩,by show (_:Nat) < _;simp only;omega⟩
 refine (kMa h0 (by omega) (by omega)).bind fun c hc=>?_
 refine Tot.bind (P:=fun s:Str=>s.length<=3) ?_ fun s hs=>?_
 .refine (zEa h0 hd).bind fun x _=>(ZIa x).bind fun _ _=>.cond (fun _=>?_) fun _=>.ret (by omega)
  exact (zEa h0 hd).bind fun y _=>(qjb _).bind fun _ _=>(zEa h0 hd).bind fun z _=>(qjb _).bind fun _ _=>.ret (by simp)
 refine last.bind fun a ha=>(last.know).bind fun b hb=>?_
 rw[vna (show -9223372036854775808<=(b.length:Int)+s.length by omega) (by omega)];refine .cond (fun hd2=>?_) fun _=>(yda (by simp;omega)).bind fun o' ho' =>.ret ?_
 .have hd2:=of_decide_eq_true hd2;refine last.bind fun _ _=>(last.know).bind fun d hd3=>?_
  obtain rfl:b=d:=Option.some.inj (hb.1.symm.trans hd3.1);have hb2:=hb.2;refine (k7a (by omega)).bind fun e he=>last.bind fun _ _=>last.bind fun _ _=>.ret ⟨by simp;omega,by simp;omega,fun p hp=>?_⟩
  rcases jDg hp with hp | rfl
  .exact hm p hp
  omega
 subst ho';refine ⟨by simp,by simp;omega,fun p hp=>?_⟩;rcases jCk.1 hp with hp | hp
 .exact hm p hp
 rw[jCd.1 hp];omega
theorem esc_len(s:Str):(s.flatMap escB).length<=2 * s.length:=by
 induction s with
 | nil=>exact jAm _
 | cons x l ih=>
  have:(escB x).length<=2:=by unfold escB;split <;> (try split) <;> simp
  rw[jCq,jBs,jBj];omega
theorem qkb{body:Int->Option (Step Int (Unit ⊕ Unit))}(s:Str)(hs:s.length<=1000000)
 (hb:∀i,body i=(bif decide (i < (s.length:Int)) then (idx s i).bind fun v20=>((bif decide (32<=(v20.toNat:Int)) then some (decide ((v20.toNat:Int)<=126)) else some false):Option Bool).bind fun (j22:Bool)=>(bif (!j22) then some (.out (.inr (()))) else some (.cont (w64 (i+1)))) else some (.out (.inl (()))))):Tot (iter body 0) fun _=>True:=by
 refine zRa (fun i:Int=>0<=i/\i<=s.length) (fun i:Int=>(s.length - i).toNat) (fun i hi=>?_) _ (by omega);rw[hb];refine .cond (fun hl=>?_) fun _=>.ret trivial
 have hl:=of_decide_eq_true hl;refine (zEa hi.1 hl).bind fun c _=>?_
 refine Tot.bind (P:=fun _=>True) (.cond (fun _=>.ret trivial) fun _=>.ret trivial) fun j _=>.cond (fun _=>.ret trivial) fun _=>.ret ?_
 rw[kSa hi.1 (by omega)];simp only[Qla];omega
theorem tot_itoa(i:Int)(h0:0<=i)(h:i<=100000):Tot (zJa i) fun r=>r.length<=10:=by
 obtain ⟨n,rfl⟩:∃n:Nat,i=n:=⟨i.toNat,by omega⟩;refine ⟨_,Kta n (by omega),jAt (Yba 9 n (by omega)) (by decide)⟩
theorem Zbb(p:zia)(hn:p.Name.length<=20)(hv:p.Value.length<=500):Tot (y2a p) fun r=>r.length<=100000:=by
 unfold y2a;refine (Vya p.Value).bind fun v1 _=>.cond (fun _=>?_) fun _=>?_
 .refine (k7a (by simp;omega)).bind fun a ha=>?_
  simp only[jBj,jCl]at ha;refine (k7a (by simp;omega)).bind fun b hb=>?_
  simp only[jBj,jCl]at hb;exact (k7a (by omega)).bind fun c hc=>.ret (by omega)
 refine Tot.bind (P:=fun _=>True) ?_ fun _ _=>.cond (fun _=>?_) fun _=>?_
 .refine .cond (fun _=>?_) fun _=>.ret trivial
  refine Tot.bind (P:=fun _=>True) ((qkb p.Value (by omega) fun i=>rfl).bind fun x _=>.elim (fun _ _=>.ret trivial) fun _ _=>.ret trivial) fun _ _=>.ret trivial
 .refine (k7a (by simp;omega)).bind fun a ha=>?_
  simp only[jBj,jCl]at ha;refine (k7a (by simp;omega)).bind fun b hb=>?_
  simp only[jBj,jCl]at hb;refine Tot.bind (P:=fun r:Str=>r.length<=1000) ?_ fun d hd=>(k7a (by omega)).bind fun e he=>(k7a (by simp;omega)).bind fun f hf=>.ret (by simp at hf;omega)
  unfold koa;rw[if_pos (by omega)];have:=esc_len p.Value;exact .ret (by omega)
 refine (yob p.Value hv).bind fun l hl=>?_
 refine Tot.bind (P:=fun r:Str=>r.length<=100000) (zRa (fun t:Str × Int=>0<=t.2/\t.2<=l.length/\(t.1.length:Int)<=100 * t.2) (fun t:Str × Int=>(l.length - t.2).toNat) (fun t ht=>?_) _ ⟨jBe _,by show (0:Int)<=_;omega,jBe _⟩) fun r hr=>.ret hr
 obtain ⟨o,i⟩:=t;obtain ⟨h0,hi,ho⟩:=ht;dsimp only at h0 hi ho;unfold jNa;dsimp only;refine .cond (fun hd=>?_) fun _=>.ret (by show o.length<=_;omega)
 have hd:=of_decide_eq_true hd;refine (zEa h0 hd).bind fun x hx=>(k7a (by simp;omega)).bind fun a ha=>?_
 simp only[jBj,jCl]at ha;refine (k7a (by simp;omega)).bind fun b hb=>(tot_itoa i h0 (by omega)).bind fun c hc=>?_
 have hxl:=hl.2 x hx.1;simp only[jBj,jCl]at hb;refine (k7a (by omega)).bind fun d hd1=>(k7a (by simp;omega)).bind fun e he=>?_
 simp only[jBj,jCl]at he;refine (k7a (by omega)).bind fun f hf=>(k7a (by omega)).bind fun g hg=>.ret ?_
 rw[kSa h0 (by omega)];simp only[Qla];omega
theorem qlb(m:zYa)(h:MedB m):Tot (vLa m) fun v=>v.1.length<=4000:=by
 unfold vLa;refine (Kya m h).bind fun f hf=>?_
 rw[zsa];refine .cond (fun _=>.ret (jBi _)) fun e=>?_
 have g:=hf (by simpa using e);have gt:=g.t;have gs:=g.s;refine (k7a (by simp;omega)).bind fun a ha=>?_
 simp only[jBj,jCl]at ha;refine (k7a (by omega)).bind fun b hb=>?_
 refine Tot.bind (P:=fun _:Str=>True) (zRa (fun t:Str × Int=>0<=t.2/\t.2<=m.Params.length/\(t.1.length:Int)<=200+100000 * t.2) (fun t:Str × Int=>(m.Params.length - t.2).toNat) (fun t ht=>?_) _ ⟨jBe _,by show (0:Int)<=_;omega,by show (b.length:Int)<=_;omega⟩) fun r _=>.cond (fun _=>.ret (jBi _)) fun hd=>.ret ?_
 .obtain ⟨o,i⟩:=t;obtain ⟨h0,hi,ho⟩:=ht;dsimp only at h0 hi ho;unfold jOa;dsimp only;refine .cond (fun hd=>?_) fun _=>.ret trivial
  have hd:=of_decide_eq_true hd;have gl:=g.l;refine (zEa h0 hd).bind fun p hp=>(Zbb p (g.p p hp.1).1 (g.p p hp.1).2).bind fun x hx=>(k7a (by omega)).bind fun y hy=>.ret ?_
  rw[kSa h0 (by omega)];simp only[Qla];omega
 have hd:=of_decide_eq_false hd;show r.length<=4000;omega
theorem qmb(m:zYa)(n:Str)(h:MedB m)(hn:n.length<=1000):Tot (wwa m n) fun v=>v.1.length<=500:=by
 unfold wwa;refine (Kya m h).bind fun f hf=>?_
 rw[zsa];refine .cond (fun _=>.ret (jBi _)) fun e=>?_
 have g:=hf (by simpa using e);have gl:=g.l;refine Tot.bind (P:=Sum.elim (fun _=>True) fun v:Str × Bool × zja=>v.1.length<=500) (zRa (fun i:Int=>0<=i/\i<=m.Params.length) (fun i:Int=>(m.Params.length - i).toNat) (fun i hi=>?_) _ (by omega)) fun x hx=>.elim (fun _ _=>.ret (jBi _)) fun v e=>.ret (by subst e;exact hx)
 unfold jPa;refine .cond (fun hl=>?_) fun _=>.ret trivial
 have hl:=of_decide_eq_true hl;refine (zEa hi.1 hl).bind fun p hp=>?_
 have hpp:=g.p p hp.1;refine (wGa _ _ (by omega) (by omega)).bind fun _ _=>.cond (fun _=>.ret hpp.2) fun _=>.ret ?_
 rw[kSa hi.1 (by omega)];simp only[Qla];omega
theorem z7b(s t:Str)(h:s.length<=1000000):Tot (zPa s t) fun _=>True:=⟨_,Qma s t (by omega),trivial⟩
theorem qnb(l:List zba)(h:qra l):Tot (vxa l) fun v=>v.1.length<=500/\(v.2=true->∃t,qua l=some t/\t.2.2=true):=by
 unfold vxa;refine (z4b l h).know.bind fun v1 h1=>?_
 obtain ⟨e1,g,_⟩:=h1;have gt:=g.t;refine Tot.bind (P:=fun j=>j=false->v1.2.2=true) (.cond (fun _=>.ret fun e=>by cases e) fun e=>(wGa _ _ (by omega) (by decide)).bind fun _ _=>.ret fun _=>by simpa using e) fun j hj=>.cond (fun _=>.ret ⟨jBi _,fun e=>by cases e⟩) fun ej=>?_
 refine (qmb v1.1 _ g.b (by decide)).bind fun v8 h8=>?_
 refine Tot.bind (P:=fun _=>True) ?_ fun _ _=>?_
 .refine .cond (fun _=>.cond (fun _=>?_) fun _=>.ret trivial) fun _=>.ret trivial
  refine Tot.bind (P:=fun _=>True) ((qkb v8.1 (by omega) fun i=>rfl).bind fun x _=>.elim (fun _ _=>.ret trivial) fun _ _=>.ret trivial) fun _ _=>.cond (fun _=>(z7b _ _ (by omega)).bind fun _ _=>.ret trivial) fun _=>.ret trivial
 exact Tot.bind (P:=fun _=>True) (.cond (fun _=>.ret trivial) fun _=>.ret trivial) fun _ _=>.ret ⟨h8,fun _=>⟨v1,e1,hj ej⟩⟩
theorem tot_kind(s b:Str)(hs:s.length<=1000000)(hb:b.length<=500):Tot (Zha s b) fun _=>True:=by
 unfold Zha;refine Tot.bind (P:=fun _=>True) ?_ fun _ _=>(k7a (by simp;omega)).bind fun _ _=>.cond (fun _=>.ret trivial) fun _=>(k7a (by simp;omega)).bind fun c hc=>(k7a (by simp at hc ⊢;omega)).bind fun _ _=>.cond (fun _=>.ret trivial) fun _=>.ret trivial
 unfold kna;rw[if_pos ⟨by omega,by decide,by decide⟩];exact .ret trivial
theorem ypb(t:List UInt8):Lib.index t [13,10]= -1∨(0<=Lib.index t [13,10]/\Lib.index t [13,10]+2<=t.length):=by
 have hg:=Lib.index_ge t [13,10];by_cases h:Lib.index t [13,10]= -1
 .exact .inl h
 obtain ⟨k,hk⟩:∃k:Nat,Lib.index t [13,10]=(k:Int):=⟨(Lib.index t [13,10]).toNat,by omega⟩;have:=(fl_some t [] k hk).1;omega
theorem z8b(a:List UInt8)(b:Str)(ha:a.length<=12000)(hb:b.length<=500):Tot (q6a a b) fun r=>r.length<=12000/\∀p∈r,p.length<=a.length:=by
 unfold q6a;have good:∀(o:List (List UInt8)) (n:Int) (c:List UInt8),(o.length:Int)<=n->n < 12000->(∀p∈o,p.length<=a.length)->c.length<=a.length->Tot (app 5864062014805 o [c]) fun r=>(r.length:Int)<=n+1/\∀p∈r,p.length<=a.length:=fun o n c h1 h2 h3 h4=>by
  refine (yda (by simp;omega)).imp fun r hr=>?_
  subst hr;refine ⟨by simp;omega,fun p hp=>?_⟩;rcases jCk.1 hp with hp | hp
  .exact h3 p hp
  rw[jCd.1 hp];exact h4
 refine Tot.bind (P:=Sum.elim (fun b:Int × List (List UInt8)=>b.1<=a.length/\(0<=b.1->(b.2.length:Int) < 12000)/\b.2.length<=12000/\∀p∈b.2,p.length<=a.length) fun b=>b.2.2.length<=12000/\∀p∈b.2.2,p.length<=a.length) (zRa (fun t:Int × Int × List (List UInt8)=>0<=t.1/\t.1<=a.length/\t.2.1<=a.length/\(t.2.2.length:Int)<=t.1/\(0<=t.2.1->(t.2.2.length:Int)+1<=t.1)/\∀p∈t.2.2,p.length<=a.length) (fun t:Int × Int × List (List UInt8)=>(a.length - t.1).toNat) (fun t ht=>?_) _ ⟨jBe _,by show (0:Int)<=_;omega,by show (-1:Int)<=_;omega,jBe _,fun e=>by simp at e,fun p hp=>by cases hp⟩) fun x hx=>.elim (fun q e=>?_) fun q e=>.ret (by subst e;exact hx)
 .obtain ⟨i,f,o⟩:=t;obtain ⟨h0,hi,hf,ho,hof,hm⟩:=ht;dsimp only at h0 hi hf ho hof hm;unfold wca;dsimp only;refine .cond (fun hd=>?_) fun _=>.ret ⟨hf,fun e=>by have:=hof e;dsimp only;omega,by show o.length<=_;omega,hm⟩
  have hd:=of_decide_eq_true hd;refine (kMa h0 hi (jBe _)).bind fun c hc=>?_
  refine Tot.bind (P:=fun n:Int=>n= -1∨(0<=n/\n+2<=c.length)) ?_ fun n hn=>?_
  .unfold yKa;rw[if_pos ⟨by omega,rfl⟩];exact .ret (ypb c)
  refine Tot.bind (P:=fun j:Int × Int=>i<=j.1/\j.1<=a.length/\j.1<=j.2/\i < j.2/\j.2<=a.length) (.cond (fun e=>.ret ?_) fun _=>.ret (by dsimp only;omega)) fun j hj=>?_
  .have e:=of_decide_eq_true e;rw[vna (n:=i+n) (by omega) (by omega),vna (by omega) (by omega)];dsimp only;omega
  refine (kMa h0 hj.1 hj.2.1).bind fun d hd2=>(tot_kind d b (by omega) hb).bind fun k _=>.cond (fun _=>.ret ?_) fun _=>?_
  .refine ⟨⟨by show 0<=j.2;omega,hj.2.2.2.2,hf,by show (o.length:Int)<=j.2;omega,fun e=>by have:=hof e;show (o.length:Int)+1<=j.2;omega,hm⟩,by show (_:Nat) < _;simp only;omega⟩
  rw[vna (n:=i - 2) (by omega) (by omega)];refine Tot.bind (P:=fun r:List (List UInt8)=>(r.length:Int)<=i/\∀p∈r,p.length<=a.length) (.cond (fun e=>?_) fun _=>.ret ⟨ho,hm⟩) fun r hr=>.cond (fun _=>.ret ⟨by show r.length<=_;omega,hr.2⟩) fun _=>.ret ?_
  .have e:=of_decide_eq_true e;have:=hof e;exact (kMa e (by omega) (by omega)).bind fun q hq=>(good o (i - 1) q (by omega) (by omega) hm (by omega)).bind fun r hr=>.ret ⟨by have:=hr.1;omega,hr.2⟩
  rw[vna (n:=i+d.length) (by omega) (by omega),vna (by omega) (by omega)];refine ⟨⟨by show 0<=j.2;omega,hj.2.2.2.2,by show min _ _<=_;omega,by show (r.length:Int)<=j.2;omega,fun e=>by show (r.length:Int)+1<=j.2;omega,hr.2⟩,by show (_:Nat) < _;simp only;omega⟩
 subst e;obtain ⟨x1,x2,x3,x4⟩:=hx;refine Tot.bind (P:=fun r:List (List UInt8)=>r.length<=12000/\∀p∈r,p.length<=a.length) (.cond (fun e=>?_) fun _=>.ret ⟨x3,x4⟩) fun r hr=>.ret hr
 have e:=of_decide_eq_true e;have:=x2 e;exact (kMa e x1 (jBe _)).bind fun c hc=>(good q.2 11999 c (by omega) (by omega) x4 (by omega)).bind fun r hr=>.ret ⟨by have:=hr.1;omega,hr.2⟩
theorem qob(l:List zba)(a:List UInt8)(d:Int)(h:qra l)(ha:a.length<=12000):Tot (wxa l a d) fun r=>r.length<=12000/\(∀p∈r,p.length<=a.length)/\(r≠ []->d < 8/\∃t,qua l=some t/\t.2.2=true):=by
 unfold wxa;refine (qnb l h).bind fun v1 h1=>?_
 refine Tot.bind (P:=fun j=>j=false->v1.2=true/\d < 8) (.cond (fun _=>.ret fun e=>by cases e) fun e=>.ret fun e2=>⟨by simpa using e,by have:=of_decide_eq_false e2;omega⟩) fun j hj=>.cond (fun _=>.ret ⟨jBi _,fun p hp=>(by cases hp),fun e=>absurd rfl e⟩) fun e=>?_
 exact (z8b a v1.1 ha h1.1).bind fun r hr=>.ret ⟨hr.1,hr.2,fun _=>⟨(hj e).2,h1.2 (hj e).1⟩⟩
theorem tot_del(L:List zia)(g:L.length<=60)(hp:∀p∈L,p.Name.length<=20/\p.Value.length<=500)(v:zYa × Int × Bool)(hv:v.1.Params=L):
 Tot (((iter (ypa v) 0).bind (Sum.elim (fun b6=>some ((-1))) (fun b7=>some b7)):Option Int).bind fun (j4:Int)=>(bif (j4==(-1)) then some v.1.Params else (iter (yqa) ((j4,(w64 (j4+1)),v.1.Params))).bind fun b20=>(cut b20.2 b20.1 (b20.2.length:Int)).bind fun v35=>(cut ((clr0 b20.2 (Int.toNat b20.1) ((zia.mk (([]:Str)) (([]:Str)))))) 0 b20.1).bind fun v37=>some v37)) fun r=>r.length<=60/\∀p∈r,p.Name.length<=20/\p.Value.length<=500:=by
 subst hv;generalize hL:v.1.Params=L at g hp;refine Tot.bind (P:=fun j:Int=>j= -1∨(0<=j/\j < L.length)) ?_ fun j hj=>.cond (fun _=>.ret ⟨g,hp⟩) fun e=>?_
 .refine Tot.bind (P:=Sum.elim (fun _=>True) fun j:Int=>0<=j/\j < L.length) (zRa (fun i:Int=>0<=i/\i<=L.length) (fun i:Int=>(L.length - i).toNat) (fun i hi=>?_) _ (by omega)) fun x hx=>.elim (fun _ _=>.ret (.inl rfl)) fun j e=>.ret (.inr (by subst e;exact hx))
  unfold ypa;rw[hL];refine .cond (fun hl=>?_) fun _=>.ret trivial
  have hl:=of_decide_eq_true hl;refine (zEa hi.1 hl).bind fun _ _=>(zEa hi.1 hl).bind fun p hpp=>?_
  have hpp:=hp p hpp.1;refine (wGa _ _ (by omega) (by decide)).bind fun _ _=>.cond (fun _=>.ret ⟨hi.1,hl⟩) fun _=>.ret ?_
  rw[kSa hi.1 (by omega)];simp only[Qla];omega
 have hj:0<=j/\j < L.length:=hj.resolve_left (by simpa using e);rw[kSa hj.1 (by omega)];have hmz:∀(M:List zia) (n:Nat),(∀p∈M,p.Name.length<=20/\p.Value.length<=500)->∀p∈clr0 M n ⟨[],[]⟩,p.Name.length<=20/\p.Value.length<=500:=fun M n hM p hpm=>by
  unfold clr0 at hpm;rcases jCk.1 hpm with hpm | hpm
  .exact hM p (List.mem_of_mem_take hpm)
  rw[(List.mem_replicate.1 hpm).2];exact ⟨by decide,by decide⟩
 refine Tot.bind (P:=fun b:Int × List zia=>0<=b.1/\b.1<=L.length/\b.2.length=L.length/\∀p∈b.2,p.Name.length<=20/\p.Value.length<=500) (zRa (fun t:Int × Int × List zia=>0<=t.1/\t.1 < t.2.1/\t.2.1<=L.length/\t.2.2.length=L.length/\∀p∈t.2.2,p.Name.length<=20/\p.Value.length<=500) (fun t:Int × Int × List zia=>(L.length - t.2.1).toNat) (fun t ht=>?_) _ ⟨hj.1,by show j < j+1;omega,by show j+1<=_;omega,rfl,hp⟩) fun b hb=>?_
 .obtain ⟨i,k,M⟩:=t;obtain ⟨h0,hik,hk,hM,hm⟩:=ht;dsimp only at h0 hik hk hM hm;unfold yqa;dsimp only;refine .cond (fun hd=>?_) fun _=>.ret ⟨h0,by dsimp only;omega,hM,hm⟩
  have hd:=of_decide_eq_true hd;refine Tot.bind (P:=fun b:Int × List zia=>0<=b.1/\b.1<=i+1/\b.2.length=L.length/\∀p∈b.2,p.Name.length<=20/\p.Value.length<=500) ?_ fun b hb=>.ret ?_
  .refine (zEa (by omega) hd).bind fun _ _=>(zEa (by omega) hd).bind fun p hpp=>?_
   have hpo:=hm p hpp.1;refine (wGa _ _ (by omega) (by decide)).bind fun _ _=>.cond (fun _=>?_) fun _=>.ret ⟨h0,by dsimp only;omega,hM,hm⟩
   refine (zEa h0 (by omega)).bind fun _ _=>(zEa h0 (by omega)).bind fun _ _=>.ret ?_
   rw[kSa h0 (by omega)];refine ⟨by dsimp only;omega,jBe _,by simpa using hM,fun q hq=>?_⟩;rcases jDg hq with hq | rfl
   .exact hm q hq
   exact hpo
  rw[kSa (i:=k) (by omega) (by omega)];exact ⟨⟨hb.1,by show b.1 < k+1;omega,by show k+1<=_;omega,hb.2.2.1,hb.2.2.2⟩,by show (_:Nat) < _;simp only;omega⟩
 refine (kMa hb.1 (by omega) (jBe _)).bind fun _ _=>?_
 refine (kMa (by omega) hb.1 ?_).bind fun r hr=>.ret ⟨by omega,fun p hpr=>hmz _ _ hb.2.2.2 p (hr.2 p hpr)⟩
 unfold clr0;simp;omega
theorem tot_bare(l:List zba)(h:qra l)(ht:∃t,qua l=some t/\t.2.2=true):Tot (Zfa l) fun v=>v.2=true->qra v.1:=by
 obtain ⟨t,ht,htt⟩:=ht;unfold Zfa;refine (z4b l h).know.bind fun v1 h1=>?_
 obtain ⟨e1,g,ha⟩:=h1;have htt:v1.2.2=true:=by rw[e1]at ht;rw[Option.some.inj ht];exact htt
 have ha:=ha htt;refine (tot_del _ g.l g.p v1 rfl).bind fun r hr=>?_
 refine (qlb ⟨v1.1.Type_,v1.1.Sub,r⟩ ⟨by show r.length<=_;omega,fun p hp=>by have:=(hr.2 p hp).1;omega⟩).bind fun q hq=>?_
 rw[zsa];refine .cond (fun _=>.ret fun e=>by cases e) fun _=>?_
 rw[w3a l h.1];refine Tot.bind (P:=fun x=>x=l) (.ret rfl) fun x hx=>?_
 subst hx;refine (zEa ha.1 ha.2).bind fun _ _=>(zEa ha.1 ha.2).bind fun f hf=>.ret fun _=>⟨by show (List.set _ _ _).length<=_;simpa using h.1,fun y hy=>?_⟩
 rcases jDg hy with hy | rfl
 .exact h.2 y hy
 exact ⟨(h.2 f hf.1).1,by show q.1.length<=_;omega⟩
def PB:Nat->zka->Prop
 | 0,p=>qra p.Fields/\p.Body.length<=12000/\p.Parts=[]
 | n+1,p=>qra p.Fields/\p.Body.length<=12000/\p.Parts.length<=12000/\∀q∈p.Parts,PB n q
theorem PB.f{n:Nat}{p:zka}(h:PB n p):qra p.Fields/\p.Body.length<=12000/\p.Parts.length<=12000:=by
 cases n with
 | zero=>exact ⟨h.1,h.2.1,by rw[h.2.2];exact jBi _⟩
 | succ n=>exact ⟨h.1,h.2.1,h.2.2.1⟩
theorem PB.leaf(n:Nat){l:List zba}{b:List UInt8}(h:qra l)(hb:b.length<=12000):PB n ⟨l,b,[]⟩:=by
 cases n with
 | zero=>exact ⟨h,hb,rfl⟩
 | succ n=>exact ⟨h,hb,jBi _,fun q hq=>by cases hq⟩
theorem J9a:qra []:=⟨jBi _,fun f hf=>by cases hf⟩
theorem PB.zero(n:Nat):PB n ⟨[],[],[]⟩:=.leaf n J9a (jBi _)
theorem Zcb(b:List UInt8):Tot (vIa b) fun v=>qra v.1/\0<=v.2.1/\v.2.1<=b.length:=by
 obtain ⟨h1,h2,h3⟩:=VBa b;unfold vIa;have zero:∀f:zja,qra (([],0,f):List zba × Int × zja).1/\(0:Int)<=(([],0,f):List zba × Int × zja).2.1/\(([],0,f):List zba × Int × zja).2.1<=b.length:=fun f=>⟨J9a,jBe _,by show (0:Int)<=_;omega⟩
 refine .cond (fun _=>.ret (zero _)) fun hd=>?_
 have hd:=of_decide_eq_false hd;rw[qfb b (by omega)];simp only[jAc,encH];refine .cond (fun _=>.ret (zero _)) fun _=>?_
 rw[qib ((((vya b).1:Nat):Int),(vya b).2) (by show (vya b).2.length<=_;omega) (fun f hf=>by have:=h3 f hf;omega)];simp only[jAc];cases j9b (vya b).2 with
 | some i=>exact .ret (zero _)
 | none=>
  refine .ret ⟨⟨by show ((vya b).2.map vza).length<=_;simp;omega,fun f hf=>?_⟩,by show (0:Int)<=((vya b).1:Int);omega,by show ((vya b).1:Int)<=_;omega⟩;have hf:f∈(vya b).2.map vza:=hf;obtain ⟨g,hg,rfl⟩:=jCe.1 hf;have:=h3 g hg;have h4:=V9a g.Value;show g.Name.length<=_/\(Zoa g.Value).length<=_;omega
abbrev RdT:=zea->List UInt8->Int->Option (zka × Bool × zea)
def RdOk(n:Nat)(rd:RdT):Prop:=∀(s:zea) (b:List UInt8) (d:Int),0<=d->d+n=8->b.length<=12000->0<=s.many->s.many<=40->Tot (rd s b d) fun v=>PB n v.1/\0<=v.2.2.many/\v.2.2.many<=40
theorem wrb(n:Nat)(rd:RdT)(h:∀m,n=m+1->RdOk m rd)(s:zea)(l:List zba)(b:List UInt8)(d:Int)(hd0:0<=d)(hd:d+n=8)(hl:qra l)(hb:b.length<=12000)(h0:0<=s.many)(h1:s.many < 40):
 Tot (yAa rd s l b d) fun v=>PB n v.1/\0<=v.2.2.many/\v.2.2.many<=40:=by
 unfold yAa;rw[w3a l hl.1,vHb b (by omega),kSa h0 (by omega)];simp only[jAc];refine (qob l b d hl hb).bind fun r hr=>.cond (fun _=>.ret ⟨.leaf n hl hb,by show 0<=s.many+1;omega,by show s.many+1<=40;omega⟩) fun hne=>?_
 have hne:r≠ []:=by rintro rfl;cases hne
 obtain ⟨hd8,ht⟩:=hr.2.2 hne;obtain ⟨m,rfl⟩:∃m,n=m+1:=⟨n - 1,by omega⟩;have h:=h m rfl;refine (tot_bare l hl ht).bind fun q hq=>.cond (fun _=>.ret ⟨.leaf _ hl hb,by show 0<=s.many+1;omega,by show s.many+1<=40;omega⟩) fun e=>?_
 have hq:=hq (by simpa using e);refine Tot.bind (P:=Sum.elim (fun x:zea × List zka=>0<=x.1.many/\x.1.many<=40/\x.2.length<=12000/\∀p∈x.2,PB m p) fun x=>0<=x.many/\x.many<=40) (zRa (fun t:Int × zea × List zka=>0<=t.1/\t.1<=r.length/\(0<=t.2.1.many/\t.2.1.many<=40)/\(t.2.2.length:Int)<=t.1/\∀p∈t.2.2,PB m p) (fun t:Int × zea × List zka=>(r.length - t.1).toNat) (fun t ht=>?_) _ ⟨jBe _,by show (0:Int)<=_;omega,by show 0<=s.many+1/\s.many+1<=40;omega,jBe _,fun p hp=>by cases hp⟩) fun x hx=>.elim (fun y e=>.ret ?_) fun y e=>.ret ?_
 .obtain ⟨i,s2,o⟩:=t;obtain ⟨j0,ji,js,jo,jm⟩:=ht;dsimp only at j0 ji js jo jm;unfold ZGa;dsimp only;refine .cond (fun hd=>?_) fun _=>.ret ⟨js.1,js.2,by show o.length<=_;omega,jm⟩
  have hdl:=of_decide_eq_true hd;rw[kSa j0 (by omega),vna (n:=d+1) (by omega) (by omega)];refine (zEa j0 hdl).bind fun x hx=>(h s2 x (d+1) (by omega) (by omega) (by have:=hr.2.1 x hx.1;omega) js.1 js.2).bind fun v hv=>.cond (fun _=>.ret hv.2) fun _=>(yda (by simp;omega)).bind fun o' ho' =>.ret ?_
  subst ho';refine ⟨⟨by show 0<=i+1;omega,by show i+1<=_;omega,hv.2,by show ((o++_).length:Int)<=i+1;simp;omega,fun p hp=>?_⟩,by show (_:Nat) < _;simp only;omega⟩;rcases jCk.1 hp with hp | hp
  .exact jm p hp
  rw[jCd.1 hp];exact hv.1
 .subst e;have hx:0<=y.1.many/\y.1.many<=40/\y.2.length<=12000/\∀p∈y.2,PB m p:=hx;exact ⟨⟨hq,jBi _,hx.2.2.1,hx.2.2.2⟩,hx.1,hx.2.1⟩
 subst e;exact ⟨.zero _,hx⟩
theorem Zdb(n:Nat)(pt:zea->List zba->List UInt8->Int->Option (zka × Bool × zea))(h:∀s l b d,0<=d->d+(n:Int)=8->qra l->b.length<=12000->0<=s.many->s.many < 40->Tot (pt s l b d) fun v=>PB n v.1/\0<=v.2.2.many/\v.2.2.many<=40):RdOk n (yBa pt):=by
 intro s b d hd0 hd hb h0 h1;unfold yBa;refine (Zcb b).bind fun v hv=>?_
 rw[zsa];refine .cond (fun _=>.ret ⟨.zero n,h0,h1⟩) fun _=>.cond (fun _=>.ret ⟨.zero n,h0,h1⟩) fun e=>?_
 have e:s.many≠40:=by simpa using e
 exact (kMa hv.2.1 hv.2.2 (jBe _)).bind fun r hr=>(h s v.1 r d hd0 hd hv.1 (by omega) h0 (by omega)).bind fun v hv=>.ret hv
theorem tot_lv:∀(n:Nat) (s:zea) (l:List zba) (b:List UInt8) (d:Int),0<=d->d+(n:Int)=8->qra l->b.length<=12000->0<=s.many->s.many < 40->Tot (Qga n s l b d) fun v=>PB n v.1/\0<=v.2.2.many/\v.2.2.many<=40
 | 0,s,l,b,d,hd0,hd,hl,hb,h0,h1=>wrb 0 _ (fun m e=>by cases e) s l b d hd0 hd hl hb h0 h1
 | n+1,s,l,b,d,hd0,hd,hl,hb,h0,h1=>wrb (n+1) _ (fun m e=>by cases e;exact Zdb n _ (tot_lv n)) s l b d hd0 hd hl hb h0 h1
theorem Zeb(p:zka)(h:qra p.Fields):Tot (y3a p) fun _=>True:=by
 unfold y3a;refine (z4b _ h).bind fun v1 h1=>?_
 have gt:=h1.1.t;refine Tot.bind (P:=fun j=>j=false->v1.2.2=true) (.cond (fun _=>.ret fun e=>by cases e) fun _=>.cond (fun _=>.ret fun e=>by cases e) fun e=>(wGa _ _ (by omega) (by decide)).bind fun _ _=>.ret fun _=>by simpa using e) fun j hj=>.cond (fun _=>.ret trivial) fun ej=>?_
 have ha:=h1.2 (hj ej);refine (qmb v1.1 _ h1.1.b (by decide)).bind fun v9 _=>(qlb v1.1 h1.1.b).bind fun v11 _=>?_
 rw[zsa];refine Tot.bind (P:=fun _=>True) (.cond (fun _=>.ret trivial) fun _=>.cond (fun _=>.ret trivial) fun _=>.cond (fun _=>.ret trivial) fun _=>(zEa ha.1 ha.2).bind fun _ _=>.cond (fun _=>.ret trivial) fun _=>.ret trivial) fun _ _=>.cond (fun _=>.ret trivial) fun _=>.ret trivial
theorem Zfb(p:zka)(d:Int)(h:qra p.Fields)(hb:p.Body.length<=12000):Tot (y4a ⟨p,d⟩) fun c=>c=0->(wja p.Fields).Code=0:=by
 unfold y4a;rw[v6a p.Fields h];simp only[jAc,zsa];refine .cond (fun e=>.ret fun e2=>e2) fun e=>?_
 have e:(wja p.Fields).Code=0:=by simpa using e
 refine .cond (fun _=>(Zeb p h).bind fun _ _=>.ret fun _=>e) fun _=>.cond (fun _=>.ret fun _=>e) fun _=>?_
 rw[Vta _ (by omega)];simp only[jAc];refine .cond (fun _=>.ret fun _=>e) fun _=>(qob _ _ d h hb).bind fun _ _=>.cond (fun _=>.ret fun _=>e) fun _=>.ret fun _=>e
theorem Zgb(n:Nat)(rd:zka->Int->Int × Bool->Option ((Int × Bool) ⊕ (Int × Bool × Int × Int)))(p:zka)(hp:p.Parts.length<=12000)(h:∀q∈p.Parts,∀d s,0<=s.1->s.1<=40->Tot (rd q d s) (Sum.elim (fun s:Int × Bool=>0<=s.1/\s.1<=40) fun b=>b.2.2.1≠0))(d:Int)(s:Int × Bool)(h0:0<=s.1)(h1:s.1<=40):
 Tot (pv1 rd p d s) (Sum.elim (fun s:Int × Bool=>0<=s.1/\s.1<=40) fun b=>b.2.2.1≠0):=by
 unfold pv1;refine .cond (fun _=>.ret (by show (2:Int)≠0;decide)) fun e=>?_
 have e:=of_decide_eq_false e;rw[kSa h0 (by omega)];refine Tot.bind (P:=fun _=>True) (.cond (fun _=>.ret trivial) fun _=>.ret trivial) fun j _=>?_
 refine Tot.bind (P:=Sum.elim (fun s:Int × Bool=>0<=s.1/\s.1<=40) fun b=>b.2.2.1≠0) (zRa (fun t:Int × Int × Bool=>0<=t.1/\t.1<=p.Parts.length/\0<=t.2.1/\t.2.1<=40) (fun t:Int × Int × Bool=>(p.Parts.length - t.1).toNat) (fun t ht=>?_) _ ⟨jBe _,by show (0:Int)<=_;omega,by show 0<=s.1+1;omega,by show s.1+1<=40;omega⟩) fun x hx=>.elim (fun a ea=>.ret (by subst ea;exact hx)) fun a ea=>.ret (by subst ea;exact hx)
 obtain ⟨i,k,b⟩:=t;obtain ⟨j0,ji,jk,jk2⟩:=ht;dsimp only at j0 ji jk jk2;unfold pv1_l;dsimp only;refine .cond (fun hd=>?_) fun _=>.ret ⟨jk,jk2⟩
 have hd:=of_decide_eq_true hd;refine (zEa j0 hd).bind fun q hq=>(h q hq.1 _ (k,b) jk jk2).bind fun x hx=>.elim (fun a ea=>.ret ?_) fun a ea=>.ret (by subst ea;exact hx)
 subst ea;rw[kSa j0 (by omega)];exact ⟨⟨by show 0<=i+1;omega,by show i+1<=_;omega,hx.1,hx.2⟩,by show (_:Nat) < _;simp only;omega⟩
theorem wsb:∀(n:Nat) (p:zka),PB n p->∀d s,0<=s.1->s.1<=40->Tot (pvl1 (n+1) p d s) (Sum.elim (fun s:Int × Bool=>0<=s.1/\s.1<=40) fun b=>b.2.2.1≠0)
 | 0,p,hp,d,s,h0,h1=>Zgb 0 _ p hp.f.2.2 (fun q hq=>by rw[hp.2.2]at hq;cases hq) d s h0 h1
 | n+1,p,hp,d,s,h0,h1=>Zgb n _ p hp.f.2.2 (fun q hq=>wsb n q (hp.2.2.2 q hq)) d s h0 h1
def HO(p:zka):Prop:=(wja p.Fields).Code=0
theorem Zhb(rd:zka->Int->Int->Option (Int ⊕ (Int × Int × Int)))(p:zka)(hs:qra p.Fields)(hb:p.Body.length<=12000)(hp:p.Parts.length<=12000)(h:∀q∈p.Parts,∀d s,Tot (rd q d s) (Sum.elim (fun _=>HO q) fun b=>b.2.1≠0))(d:Int)(s:Int):
 Tot (pv2 rd p d s) (Sum.elim (fun _=>HO p/\∀q∈p.Parts,HO q) fun b=>b.2.1≠0):=by
 unfold pv2;refine (Zfb p d hs hb).bind fun c hc=>.cond (fun e=>.ret (by simpa using e)) fun e=>?_
 have hc:=hc (by simpa using e);refine Tot.bind (P:=Sum.elim (fun _=>∀q∈p.Parts,HO q) fun b=>b.2.1≠0) (zRa (fun t:Int × Int=>0<=t.1/\t.1<=p.Parts.length/\∀(j:Nat) q,(j:Int) < t.1->p.Parts[j]? =some q->HO q) (fun t:Int × Int=>(p.Parts.length - t.1).toNat) (fun t ht=>?_) _ ⟨jBe _,by show (0:Int)<=_;omega,fun j q hj=>by simp at hj;omega⟩) fun x hx=>.elim (fun a ea=>.ret (by subst ea;exact ⟨hc,hx⟩)) fun a ea=>.ret (by subst ea;exact hx)
 obtain ⟨i,k⟩:=t;obtain ⟨j0,ji,jg⟩:=ht;dsimp only at j0 ji jg;unfold pv2_l;dsimp only;refine .cond (fun hd=>?_) fun hd=>?_
 .have hd:=of_decide_eq_true hd;refine (zEa j0 hd).bind fun q hq=>(h q hq.1 _ k).bind fun x hx=>.elim (fun a ea=>.ret ?_) fun a ea=>.ret (by subst ea;exact hx)
  subst ea;rw[kSa j0 (by omega)];refine ⟨⟨by show 0<=i+1;omega,by show i+1<=_;omega,fun j q' hj hq' =>?_⟩,by show (_:Nat) < _;simp only;omega⟩;have hj:(j:Int) < i+1:=hj;by_cases e:(j:Int) < i
  .exact jg j q' e hq'
  have e2:i.toNat=j:=by omega
  rw[<-e2,hq.2]at hq';cases hq';exact hx
 have hd:=of_decide_eq_false hd;refine .ret fun q hq=>?_
 obtain ⟨j,hj⟩:=jCo hq;exact jg j q (by have:=z6a hj;omega) hj
theorem wtb:∀(n:Nat) (p:zka),PB n p->∀d s,Tot (pvl2 (n+1) p d s) (Sum.elim (fun _=>HO p/\∀q∈p.Parts,HO q) fun b=>b.2.1≠0)
 | 0,p,hp,d,s=>Zhb _ p hp.f.1 hp.f.2.1 hp.f.2.2 (fun q hq=>by rw[hp.2.2]at hq;cases hq) d s
 | n+1,p,hp,d,s=>Zhb _ p hp.f.1 hp.f.2.1 hp.f.2.2 (fun q hq d s=>(wtb n q (hp.2.2.2 q hq) d s).imp fun x hx=>by
  cases x with
  | inl a=>exact hx.1
  | inr a=>exact hx) d s
theorem Zib(n:Nat)(p:zka)(h:PB n p):Tot (kJa n p) fun f=>f.Code=0->HO p/\∀q∈p.Parts,HO q:=by
 unfold kJa;refine (wsb n p h 0 (0,false) (jBe _) (by decide)).bind fun x hx=>.elim (fun b _=>.cond (fun _=>.ret fun e=>by cases e) fun _=>?_) fun b e=>.ret fun e0=>by subst e;exact absurd e0 hx
 refine (wtb n p h 0 0).bind fun y hy=>.elim (fun a ea=>.ret fun _=>by subst ea;exact hy) fun a ea=>.ret fun e0=>by subst ea;exact absurd e0 hy
structure Wca (r:zka × zja):Prop where
 b:PB 8 r.1
 h:HO r.1/\∀q∈r.1.Parts,HO q
 z:r.2.Code≠0->r.1=⟨[],[],[]⟩
theorem Wca.zero(f:zja):Wca (⟨[],[],[]⟩,f):=⟨.zero 8,⟨rfl,fun q hq=>by cases hq⟩,fun _=>rfl⟩
theorem qpb{m:zda}(h:(msgF m).Code=0):m.Body.length<=12000/\msgF m=⟨0,0⟩:=by
 unfold msgF at h ⊢;split at h
 .rename_i hh;exact absurd h (by simpa using hh)
 rename_i hh;rw[if_neg hh];split at h
 .cases h
 rename_i h2;rw[if_neg h2];refine ⟨?_,?_⟩
 .have:m.Body.length<=(vha m).length:=by unfold vha;simp;omega
  omega
 unfold jPb at h ⊢
 revert h
 cases YIa 0 m.Body with
 | none=>intro _;rfl
 | some b=>cases b <;> (intro h;cases h)
theorem Zjb(m:zda)(h:QCa m):Tot (qba m) Wca:=by
 unfold qba;rw[kPa m h];simp only[jAc,zsa];refine .cond (fun e=>.ret (.zero _)) fun e=>?_
 have e:(msgF m).Code=0:=by simpa using e
 refine (tot_lv 8 ⟨0,⟨0,0⟩⟩ m.Fields m.Body 0 (jBe _) (by decide) h.1 (qpb e).1 (jBe _) (by decide)).bind fun v hv=>.cond (fun _=>.ret (.zero _)) fun _=>(Zib 8 v.1 hv.1).bind fun f hf=>?_
 exact .cond (fun _=>.ret (.zero _)) fun e2=>.ret ⟨hv.1,hf (by simpa using e2),fun e3=>absurd rfl e3⟩
def kCT:Str:=[67,111,110,116,101,110,116,45,84,121,112,101]
def kXD:Str:=[88,45,68,105,103,101,115,116]
def vIT:Str:=[109,101,115,115,97,103,101,47,105,116,101,109]
def vMD:Str:=[109,117,108,116,105,112,97,114,116,47,100,105,103,101,115,116]
theorem vIb(F:List zba)(n x:Str)(hs:qra F)(hn:n.length<=1048576)(hh:(wja F).Code=0)(hf:fnP n=true):qFa F n x=some (getP F n==[x]):=by
 unfold qFa;rw[z2b F n hs hn,hh,hf];simp only[bne_self_eq_false,jAs,if_false,jBo,jAc]
 match getP F n with
 | []=>rfl
 | [a]=>
  rw[show ((([a]:List Str).length:Int)==1)=true from rfl,show idx ([a]:List Str) 0=some a from rfl];simp
 | a::b::r=>
  rw[show (((a::b::r:List Str).length:Int)==1)=false by rw[beq_eq_false_iff_ne];simp;omega];simp
theorem strs_is(F:List zba)(b:List UInt8)(n x:Str)(hs:qra F)(hb:b.length<=1048576)(hn:n.length<=1048576):((vBa ⟨F,b⟩ n).bind fun v=>(qJa v [x]))=some (getP F n==[x]):=by
 rw[YVa ⟨F,b⟩ n ⟨hs,hb⟩ hn];simp only[jAc];refine Wva _ _ ?_;have h1:=hs.1;have:(getP F n).length<=F.length:=by unfold getP;rw[jAx];exact List.length_filter_le _ _
 omega
theorem Zkb{m:zda}(hm:(msgF m).Code=0)(h2:QCa m):qDa m=some (vha m,⟨0,0⟩)/\kCa m=some (vha m):=by
 have hh:(wja m.Fields).Code=0:=by
  unfold msgF at hm;by_cases hz:(wja m.Fields).Code=0
  .exact hz
  rw[if_pos (by simpa using hz)]at hm;exact hm
 obtain ⟨q1,q2,q3⟩:=j6a _ hh;refine ⟨?_,j7a m h2.2 (by omega) q3⟩;unfold qDa;rw[kPa _ h2];simp only[jAc,zsa,qCa,hm,ZWa m h2.2 (by omega) q3];rfl
theorem z9b{b:List UInt8}(hb:b.length<=12000)(h:(jea b).2=true):(msgF (jea b).1).Code=0/\QCa (jea b).1:=by
 unfold jea at h ⊢;split at h
 .cases h
 rename_i h60;rw[if_neg h60];split at h
 .rename_i h0;rw[if_pos h0];exact ⟨h0,Wba b hb⟩
 cases h
def KAa(q:zka):Option zda:=if q.Parts.length=0/\getP q.Fields kCT=[vIT]/\(jea q.Body).2=true/\vha (jea q.Body).1=q.Body then some (jea q.Body).1 else none
def QOk(q:zka):Prop:=qra q.Fields/\q.Body.length<=12000/\q.Parts.length<=12000/\HO q
theorem vJb{q:zka}{x:zda}(hq:q.Body.length<=12000)(h:KAa q=some x):x.Fields.length<=1048576:=by
 unfold KAa at h;split at h
 .rename_i hc;cases h;exact (z9b hq hc.2.2.1).2.1.1
 cases h
theorem Jva(a b:List UInt8):qza a b=some (a==b):=by unfold qza;rfl
theorem Jwa(q:zka)(h:QOk q):∃x b,y5a q=some (x,b)/\(b=true->KAa q=some x)/\(b=false->KAa q=none):=by
 obtain ⟨h1,h2,h3,h4⟩:=h;unfold y5a KAa;by_cases hp:q.Parts.length=0
 .rw[hp,show decide ((0:Int) < ((0:Nat):Int))=false by decide,vIb q.Fields _ _ h1 (by decide) h4 (by decide+kernel)];simp only[cond_false,jAc];by_cases hc:getP q.Fields kCT=[vIT]
  .rw[show (getP q.Fields [67,111,110,116,101,110,116,45,84,121,112,101]==[[109,101,115,115,97,103,101,47,105,116,101,109]])=true from beq_iff_eq.2 hc];simp only[jBo,cond_false];obtain ⟨f,r1,r2⟩:=YUa q.Body h2;rw[r1];simp only[jAc,zsa,r2];by_cases hr:(jea q.Body).2=true
   .obtain ⟨k1,k2⟩:=z9b h2 hr;rw[hr,(Zkb k1 k2).1];simp only[jBo,cond_false,jAc,zsa,bne_self_eq_false,jDo,cond_true,Jva];by_cases hb:vha (jea q.Body).1=q.Body
    .rw[if_pos ⟨trivial,hc,trivial,hb⟩];refine ⟨_,_,rfl,fun _=>rfl,fun e=>?_⟩;rw[hb]at e;simp at e
    rw[if_neg (fun hx=>hb hx.2.2.2)];refine ⟨_,_,rfl,fun e=>?_,fun _=>rfl⟩;exact absurd (by simpa using e) hb
   have hr2:(jea q.Body).2=false:=by simpa using hr
   rw[if_neg (fun hx=>hr hx.2.2.1),hr2];exact ⟨_,_,rfl,fun e=>(by cases e),fun _=>rfl⟩
  rw[if_neg (fun hx=>hc hx.2.1),show (getP q.Fields [67,111,110,116,101,110,116,45,84,121,112,101]==[[109,101,115,115,97,103,101,47,105,116,101,109]])=false from beq_eq_false_iff_ne.2 hc];exact ⟨_,_,rfl,fun e=>(by cases e),fun _=>rfl⟩
 rw[if_neg (fun hx=>hp hx.1),show decide ((0:Int) < (q.Parts.length:Int))=true from decide_eq_true (by omega)];exact ⟨_,_,rfl,fun e=>(by cases e),fun _=>rfl⟩
def vRa:List zka->List zda->Option (List zda)
 | [],acc=>some acc
 | q::r,acc=>match KAa q with
  | some x=>vRa r (acc++ [x])
  | none=>none
theorem YWa{q:zka}{x:zda}(h:KAa q=some x)(r:List zka)(acc:List zda):vRa (q::r) acc=vRa r (acc++ [x]):=by
 show (match KAa q with | some x=>vRa r (acc++ [x]) | none=>none)=_;rw[h]
theorem YXa{q:zka}(h:KAa q=none)(r:List zka)(acc:List zda):vRa (q::r) acc=none:=by
 show (match KAa q with | some x=>vRa r (acc++ [x]) | none=>none)=_;rw[h]
theorem Zlb{l:List zka}{i:Nat}{q:zka}(h:l[i]? =some q):l.drop i=q::l.drop (i+1):=by
 obtain ⟨hi,rfl⟩:=jAd.1 h;exact jCg hi
theorem yqb(r:zka × zja)(h:∀q∈r.1.Parts,QOk q)(hl:r.1.Parts.length<=12000):Tot (iter (wFa r) (0,([]:List zda))) (Sum.elim (fun l=>vRa r.1.Parts []=some l/\l.length<=12000/\∀m∈l,m.Fields.length<=1048576) fun b=>vRa r.1.Parts []=none/\b=([],false,⟨0,0⟩)):=by
 refine zRa (fun t:Int × List zda=>0<=t.1/\t.1<=r.1.Parts.length/\(t.2.length:Int)<=t.1/\vRa r.1.Parts []=vRa (r.1.Parts.drop t.1.toNat) t.2/\∀m∈t.2,m.Fields.length<=1048576) (fun t:Int × List zda=>(r.1.Parts.length - t.1).toNat) (fun t ht=>?_) _ ⟨jBe _,by show (0:Int)<=_;omega,jBe _,rfl,fun m hm=>by cases hm⟩;obtain ⟨i,o⟩:=t;obtain ⟨h0,hi,ho,he,hm⟩:=ht;dsimp only at h0 hi ho he hm;unfold wFa;dsimp only;refine .cond (fun hd=>?_) fun hd=>?_
 .have hd:=of_decide_eq_true hd;refine (zEa h0 hd).bind fun q hq=>?_
  obtain ⟨x,b,e1,e2,e3⟩:=Jwa q (h q hq.1);rw[e1];simp only[jAc];rw[Zlb hq.2]at he;cases b with
  | false=>
   have e3:=e3 rfl;refine .ret ⟨?_,rfl⟩;rw[he];exact YXa e3 _ _
  | true=>
   have e2:=e2 rfl;refine (yda (by simp;omega)).bind fun o' ho' =>.ret ?_
   subst ho';rw[kSa h0 (by omega)];refine ⟨⟨by show 0<=i+1;omega,by show i+1<=_;omega,by show ((o++_).length:Int)<=i+1;simp;omega,?_,fun y hy=>?_⟩,by show (_:Nat) < _;simp only;omega⟩
   .show _=vRa (List.drop (i+1).toNat _) _;rw[he,show (i+1).toNat=i.toNat+1 by omega];exact YWa e2 _ _
   rcases jCk.1 hy with hy | hy
   .exact hm y hy
   rw[jCd.1 hy];exact vJb (h q hq.1).2.1 e2
 have hd:=of_decide_eq_false hd;refine .ret ⟨?_,by show o.length<=_;omega,hm⟩;rw[he,List.drop_eq_nil_of_le (by omega)];rfl
theorem law_part(q:zka)(h:QOk q):wsa q.Body=some (jea q.Body)/\((bif (jea q.Body).2 then (bif ((q.Parts.length:Int)==0) then (vBa ((zda.mk q.Fields ([]))) (([67,111,110,116,101,110,116,45,84,121,112,101]:Str))).bind fun v49=>(qJa v49 (([([109,101,115,115,97,103,101,47,105,116,101,109]:Str)]:List Str))).bind fun v51=>(bif v51 then (kCa (jea q.Body).1).bind fun v54=>some ((v54==q.Body)) else some false) else some false) else some false):Option Bool)=some (KAa q).isSome:=by
 obtain ⟨h1,h2,h3,h4⟩:=h;refine ⟨Jua _ h2,?_⟩;unfold KAa;by_cases hr:(jea q.Body).2=true
 .rw[hr];simp only[cond_true];by_cases hp:q.Parts.length=0
  .rw[hp,show (((0:Nat):Int)==0)=true from rfl];simp only[cond_true];rw[<-Option.bind_assoc,strs_is q.Fields [] _ _ h1 (jBi _) (by decide)];simp only[jAc];by_cases hc:getP q.Fields kCT=[vIT]
   .rw[show (getP q.Fields [67,111,110,116,101,110,116,45,84,121,112,101]==[[109,101,115,115,97,103,101,47,105,116,101,109]])=true from beq_iff_eq.2 hc];obtain ⟨k1,k2⟩:=z9b h2 hr;rw[(Zkb k1 k2).2];simp only[cond_true,jAc];by_cases hb:vha (jea q.Body).1=q.Body
    .rw[if_pos ⟨trivial,hc,trivial,hb⟩,beq_iff_eq.2 hb];rfl
    rw[if_neg (fun hx=>hb hx.2.2.2),beq_eq_false_iff_ne.2 hb];rfl
   rw[if_neg (fun hx=>hc hx.2.1),show (getP q.Fields [67,111,110,116,101,110,116,45,84,121,112,101]==[[109,101,115,115,97,103,101,47,105,116,101,109]])=false from beq_eq_false_iff_ne.2 hc];rfl
  rw[if_neg (fun hx=>hp hx.1),show ((q.Parts.length:Int)==0)=false by rw[beq_eq_false_iff_ne];omega];rfl
 have hr2:(jea q.Body).2=false:=by simpa using hr
 rw[if_neg (fun hx=>hr hx.2.2.1),hr2];rfl
theorem qqb{q:zka}(h:(KAa q).isSome=true):KAa q=some (jea q.Body).1:=by
 unfold KAa at h ⊢;split at h
 .rename_i hc;rw[if_pos hc]
 cases h
theorem Zmb(r:zka × zja)(h:∀q∈r.1.Parts,QOk q)(hl:r.1.Parts.length<=12000)(g:Bool):Tot (iter (z8a r) (g,0,([]:List zda))) fun b=>(b.1=true->g=true/\vRa r.1.Parts []=some b.2)/\(b.1=false->g=true->vRa r.1.Parts []=none):=by
 refine zRa (fun t:Bool × Int × List zda=>0<=t.2.1/\t.2.1<=r.1.Parts.length/\(t.2.2.length:Int)<=t.2.1/\(t.1=true->g=true/\vRa r.1.Parts []=vRa (r.1.Parts.drop t.2.1.toNat) t.2.2)/\(t.1=false->g=true->vRa r.1.Parts []=none)) (fun t:Bool × Int × List zda=>(r.1.Parts.length - t.2.1).toNat) (fun t ht=>?_) _ ⟨jBe _,by show (0:Int)<=_;omega,jBe _,fun e=>⟨e,rfl⟩,fun e e2=>by rw[show g=false from e]at e2;cases e2⟩;obtain ⟨b,i,o⟩:=t;obtain ⟨h0,hi,ho,ht,hf⟩:=ht;dsimp only at h0 hi ho ht hf;unfold z8a;dsimp only;refine Tot.bind (P:=fun j=>(j=true->i < r.1.Parts.length/\b=true)/\(j=false->i < r.1.Parts.length->b=false)) (.cond (fun hd=>.ret ⟨fun e=>⟨of_decide_eq_true hd,e⟩,fun e _=>e⟩) fun hd=>.ret ⟨fun e=>(by cases e),fun _ e=>absurd e (of_decide_eq_false hd)⟩) fun j hj=>.cond (fun ej=>?_) fun ej=>.ret ?_
 .obtain ⟨hd,rfl⟩:=hj.1 ej;obtain ⟨hg,he⟩:=ht rfl;refine (zEa h0 hd).bind fun q hq=>?_
  obtain ⟨e1,e2⟩:=law_part q (h q hq.1);rw[e1];simp only[jAc];rw[e2];simp only[jAc];refine (yda (by simp;omega)).bind fun o' ho' =>.ret ?_
  subst ho';rw[kSa h0 (by omega)];rw[Zlb hq.2]at he;refine ⟨⟨by show 0<=i+1;omega,by show i+1<=_;omega,by show ((o++_).length:Int)<=i+1;simp;omega,fun e=>⟨hg,?_⟩,fun e _=>?_⟩,by show (_:Nat) < _;simp only;omega⟩
  .show _=vRa (List.drop (i+1).toNat _) _;rw[he,show (i+1).toNat=i.toNat+1 by omega];exact YWa (qqb e) _ _
  have e:(KAa q).isSome=false:=e;rw[he];exact YXa (by cases hp:KAa q with | none=>rfl | some x=>rw[hp]at e;cases e) _ _
 refine ⟨fun e=>?_,hf⟩;have e:b=true:=e;obtain ⟨h1,h2⟩:=ht e;refine ⟨h1,?_⟩;show vRa _ _=some o;rw[h2];have:¬i < r.1.Parts.length:=fun hlt=>by rw[hj.2 ej hlt]at e;cases e
 rw[List.drop_eq_nil_of_le (by omega)];rfl
theorem yrb(v:(List zda) × Bool × zja)(b:Bool × List zda)(h:b.2=v.1)(hl:v.1.length<=12000)(hm:∀m∈v.1,m.Fields.length<=1048576):Tot (iter (z9a v b) 0) (· =.inl ()):=by
 refine zRa (fun i:Int=>0<=i/\i<=v.1.length) (fun i:Int=>(v.1.length - i).toNat) (fun i hi=>?_) _ (by omega);unfold z9a;rw[h];refine .cond (fun hd=>?_) fun _=>.ret rfl
 have hd:=of_decide_eq_true hd;obtain ⟨x,e1,e2⟩:=zEa hi.1 hd;rw[e1];simp only[jAc];rw[VCa x (hm x e2.1)];simp only[jAc,jBo,cond_false];refine .ret ?_;rw[kSa hi.1 (by omega)];simp only[Qla];omega
theorem YYa:Zla=some true:=by kernel_rfl
def ZLa(p:zka × zja):Bool:=(p.2.Code==0) && (decide (1<=p.1.Parts.length) && (decide (p.1.Parts.length<=20) && ((getP p.1.Fields kCT==[vMD]) && (getP p.1.Fields kXD==[Lib.decDigits p.1.Parts.length]))))
theorem qrb(F:List zba)(n:Str)(hs:qra F)(hn:n.length<=1048576):vBa ⟨F,[]⟩ n=some (getP F n):=YVa ⟨F,[]⟩ n ⟨hs,jBi _⟩ hn
theorem zab(F:List zba)(n x:Str)(hs:qra F):qJa (getP F n) [x]=some (getP F n==[x]):=by
 refine Wva _ _ ?_;have h1:=hs.1;have:(getP F n).length<=F.length:=by unfold getP;rw[jAx];exact List.length_filter_le _ _
 omega
theorem headA(p:zka × zja)(ok:Wca p):((zna p.2).bind fun v9=>(bif v9 then some true else (bif decide ((p.1.Parts.length:Int) < 1) then some true else (bif decide (20 < (p.1.Parts.length:Int)) then some true else (qFa p.1.Fields (([67,111,110,116,101,110,116,45,84,121,112,101]:Str)) (([109,117,108,116,105,112,97,114,116,47,100,105,103,101,115,116]:Str))).bind fun v14=>(bif (!v14) then some true else (zJa ((p.1.Parts.length:Int))).bind fun v17=>(qFa p.1.Fields (([88,45,68,105,103,101,115,116]:Str)) v17).bind fun v19=>some ((!v19)))))):Option Bool)=some (!ZLa p):=by
 have hf:=ok.b.f;have hh:=ok.h.1;unfold ZLa;rw[zsa,show (p.2.Code !=0)= !(p.2.Code==0) from rfl];simp only[jAc];cases p.2.Code==0 with
 | false=>rfl
 | true=>
  simp only[jBo,cond_false,jDn];rw[show decide ((p.1.Parts.length:Int) < 1)= !decide (1<=p.1.Parts.length) by rw[jBg];simp only[jBv,decide_eq_true_eq,decide_eq_false_iff_not];omega,show decide ((20:Int) < (p.1.Parts.length:Int))= !decide (p.1.Parts.length<=20) by rw[jBg];simp;omega];cases decide (1<=p.1.Parts.length) with
  | false=>rfl
  | true=>
   cases decide (p.1.Parts.length<=20) with
   | false=>rfl
   | true=>
    simp only[jBo,cond_false,jDn];rw[vIb p.1.Fields _ _ hf.1 (by decide) hh (by decide+kernel)];simp only[jAc];rw[Kta _ (by omega)];simp only[jAc];rw[vIb p.1.Fields _ _ hf.1 (by decide) hh (by decide+kernel)];simp only[jAc];show (bif !(getP p.1.Fields kCT==[vMD]) then some true else some (!(getP p.1.Fields kXD==[Lib.decDigits p.1.Parts.length])))=_;cases getP p.1.Fields kCT==[vMD] <;> rfl
theorem headB(p:zka × zja)(ok:Wca p):(((bif (p.2.Code==0) then (R_In ((p.1.Parts.length:Int)) 1 20).bind fun v21=>some v21 else some false):Option Bool).bind fun (j19:Bool)=>((bif j19 then (vBa ((zda.mk p.1.Fields ([]))) (([67,111,110,116,101,110,116,45,84,121,112,101]:Str))).bind fun v25=>(qJa v25 (([([109,117,108,116,105,112,97,114,116,47,100,105,103,101,115,116]:Str)]:List Str))).bind fun v27=>(bif v27 then (vBa ((zda.mk p.1.Fields ([]))) (([88,45,68,105,103,101,115,116]:Str))).bind fun v30=>(Qea ((p.1.Parts.length:Int))).bind fun v32=>(qJa v30 (([v32]:List Str))).bind fun v34=>some v34 else some false) else some false):Option Bool))=some (ZLa p):=by
 have hf:=ok.b.f;unfold ZLa;rw[zSb,qrb _ _ hf.1 (by decide),qrb _ _ hf.1 (by decide),vCb _ (by omega)];simp only[jAc];rw[zab _ _ _ hf.1,zab _ _ _ hf.1];simp only[jAc];rw[show decide ((1:Int)<=(p.1.Parts.length:Int))=decide (1<=p.1.Parts.length) by rw[jBg];simp;omega,show decide ((p.1.Parts.length:Int)<=20)=decide (p.1.Parts.length<=20) by rw[jBg];simp;omega];show ((bif (p.2.Code==0) then some (decide (1<=p.1.Parts.length) && decide (p.1.Parts.length<=20)) else some false:Option Bool).bind fun (j19:Bool)=>(bif j19 then (bif (getP p.1.Fields kCT==[vMD]) then some (getP p.1.Fields kXD==[Lib.decDigits p.1.Parts.length]) else some false) else some false:Option Bool))=_;cases p.2.Code==0 <;> cases decide (1<=p.1.Parts.length) <;> cases decide (p.1.Parts.length<=20) <;> cases getP p.1.Fields kCT==[vMD] <;> rfl
theorem Jxa(a0:zda)(hs:QCa a0)(h0:msgF a0=⟨0,0⟩)(p:zka × zja)(hp:qba a0=some p)(ok:Wca p)(hq:∀q∈p.1.Parts,QOk q):
 ∃X:List zda × Bool,q7a a0=some (X.1,X.2,⟨0,0⟩)/\((ZLa p=false∨vRa p.1.Parts []=none)->X=([],false))/\∀l,ZLa p=true->vRa p.1.Parts []=some l->X=(l,true)/\l.length<=12000/\∀m∈l,m.Fields.length<=1048576:=by
 unfold q7a;rw[kPa a0 hs,h0];simp only[jAc,zsa ⟨0,0⟩,bne_self_eq_false,cond_false,hp];rw[headA p ok];simp only[jAc,qCa];cases hg:ZLa p with
 | false=>exact ⟨([],false),rfl,fun _=>rfl,fun l e=>by cases e⟩
 | true=>
  obtain ⟨r,e2,r1⟩:=yqb p hq ok.b.f.2.2;simp only[jBo,cond_false,e2,jAc];cases r with
  | inr c=>
   obtain ⟨r2,rfl⟩:=r1;exact ⟨([],false),rfl,fun _=>rfl,fun l _ e=>by rw[r2]at e;cases e⟩
  | inl l=>
   obtain ⟨r2,r3,r4⟩:=r1;exact ⟨(l,true),rfl,fun e=>(by
    rcases e with e | e; · cases e
    rw[r2]at e;cases e),fun l' _ e=>by
    rw[r2]at e;cases e;exact ⟨rfl,r3,r4⟩⟩
theorem yfa(a0:zda)(o0:zda.ok a0)(hk:zda.bk a0<=1048576):kwa a0=some true:=by
 have hs:QCa a0:=jQb hk;unfold kwa;rw[j8a a0 hs,YYa];by_cases h0:(msgF a0).Code=0
 case neg=>
  have hb:((msgF a0).Code !=0)=true:=bne_iff_ne.2 h0;unfold q7a;rw[kPa a0 hs];simp only[jAc,jBo,cond_false];rw[zsa (msgF a0)];simp only[jAc];rw[hb];simp[Z4a,hb]
 obtain ⟨_,hz⟩:=qpb h0;obtain ⟨p,hp,ok⟩:=Zjb a0 hs;have hq:∀q∈p.1.Parts,QOk q:=fun q hq=>by
  have:=(ok.b.2.2.2 q hq).f;exact ⟨this.1,this.2.1,this.2.2,ok.h.2 q hq⟩
 have hpf:=ok.b.f;obtain ⟨X,eX,x1,x2⟩:=Jxa a0 hs hz p hp ok hq;rw[hz,eX];simp only[jAc,jBo,cond_false,hp];have e0:(!Z4a [((0:Int)==0),((0:Int)==0)])=false:=rfl;rw[e0,show ((0:Int) !=0)=false from rfl];simp only[cond_false,jAc];rw[<-Option.bind_assoc,headB p ok];obtain ⟨b,e1,b1,b2⟩:=Zmb p hq hpf.2.2 (ZLa p);simp only[jAc,e1];cases hb:b.1 with
 | false=>
  have hX:X=([],false):=x1 (by
   cases hg:ZLa p with
   | false=>exact .inl rfl
   | true=>exact .inr (b2 hb hg))
  subst hX;rfl
 | true=>
  obtain ⟨hg,h2⟩:=b1 hb;obtain ⟨rfl,h3,h4⟩:=x2 b.2 hg h2;obtain ⟨x,e3,rfl⟩:=yrb (b.2,true,⟨0,0⟩) b rfl h3 h4;simp only[jBo,cond_false,bne_self_eq_false,jAc,e3,Sum.elim_inl]
section
section
variable {E:Env} {T:Tab} {fr:Fr} {σ:Sto} {k:KS} {ops:Array Oper} {l:List Oper} {V R:Type} {r:R} {A B:Option R} {t:Bool} {g:GS}
def isR:Exit->Bool
 | .normal=>true
 | .ret=>true
 | _=>false
theorem Znb{e:Exit}(h:isR e=true):isN e=true∨e=.ret:=by cases e <;> simp_all [isR,isN]
theorem jx(n:Nat){J:Type}{a j:J}(hr:some a=some j){frs:J->Fr}{stos:J->Sto}(hT:zDa E.P T:=by exact tk)(h:GS.run T E.N n g=some (.at .normal fr σ (.jo frs stos (fun z=>j=z) k)):=by exact rfl)(hf:(frs a).map fr.sel=frs a:=by exact rfl)(hs:(stos a).map σ.sel=(stos a).map (fun p=>some p.2):=by exact rfl):g.holds E:=
 rn hT n h (by cases hr;exact jn _ rfl hf hs)
theorem kx(n:Nat){a r:R}(hr:some a=some r){fn:Func}{rv:AV}{cs:List AV}{e:Exit}{hm:Mono (Kret E.P fn rv)}(hT:zDa E.P T:=by exact tk)(h:GS.run T E.N n g=some (.at e fr σ (.base (Kret E.P fn rv) hm)):=by exact rfl)(he:isR e=true:=by exact rfl)(hc:Qja T fr σ fn.results.toList=some cs:=by exact rfl)(hv:some a=some r->Vaa cs=rv:=by (rintro ⟨⟩;exact rfl)):g.holds E:=
 rn hT n h (kr hT (Znb he) hc (hv hr))
theorem cx(n:Nat){A B:Type}{s:A}{x:Step A B}(hr:some (.cont s)=some x){frs:A->Fr}{stos:A->Sto}{O:B->Post}{hm:Mono (jTa frs stos O x)}(hT:zDa E.P T:=by exact tk)(h:GS.run T E.N n g=some (.at .normal fr σ (.base (jTa frs stos O x) hm)):=by exact rfl)(hf:(frs s).map fr.sel=frs s:=by exact rfl)(hs:(stos s).map σ.sel=(stos s).map (fun p=>some p.2):=by exact rfl):g.holds E:=
 rn hT n h (by cases hr;exact ⟨rfl,frw hf,stw hs⟩)
theorem ox(n:Nat){A B:Type}{b:B}{x:Step A B}(hr:some (.out b)=some x){e:Exit}{frs:A->Fr}{stos:A->Sto}{e0:B->Exit}{fr0:B->Fr}{σ0:B->Sto}{hm:Mono (jTa frs stos (fun b=>At (e0 b) (fr0 b) (σ0 b)) x)}(hT:zDa E.P T:=by exact tk)(h:GS.run T E.N n g=some (.at e fr σ (.base (jTa frs stos (fun b=>At (e0 b) (fr0 b) (σ0 b)) x) hm)):=by exact rfl)(he:e=e0 b:=by exact rfl)(hn:isN e=false:=by exact rfl)(hf:(fr0 b).map fr.sel=fr0 b:=by exact rfl)(hs:(σ0 b).map σ.sel=(σ0 b).map (fun p=>some p.2):=by exact rfl):g.holds E:=
 rn hT n h (by cases hr;exact ato he hn hf hs)
theorem sxx(n:Nat){a r:R}(hr:some a=some r){fn:Func}{rv w:AV}{σ1:Sto}{Tm:Array Value}{H:Nat}{cs:List AV}{e:Exit}{hm:Mono (Jma E.P fn rv w H Tm σ1)}(hT:zDa E.P T:=by exact tk)(h:GS.run T E.N n g=some (.at e fr σ (.base (Jma E.P fn rv w H Tm σ1) hm)):=by exact rfl)(he:isR e=true:=by exact rfl)(hc:Qja T fr σ fn.results.toList=some cs:=by exact rfl)(hv:some a=some r->Vaa cs=rv:=by (rintro ⟨⟩;exact rfl))(hs:some a=some r->((H,.hold w (Tm.getD 0 undef))::σ1).map σ.sel=((H,.hold w (Tm.getD 0 undef))::σ1).map (fun p=>some p.2):=by (rintro ⟨⟩;exact rfl)):g.holds E:=
 rn hT n h (krS hT (Znb he) hc (hv hr) (stw (hs hr)))
theorem ax(n d:Nat){x y:Code}(hr:(bif t then A else B)=some r)(hA:A=some r->(GS.code x ((d,.pv (.b (.bool true)))::fr) σ k).holds E)(hB:B=some r->(GS.code y ((d,.pv (.b (.bool false)))::fr) σ k).holds E)(hT:zDa E.P T:=by exact tk)(h:GS.run T E.N n g=some (.code (.cond (.tmp d) x y) fr σ k):=by exact rfl)(hd:fr.get d=.pv (.b (.bool t)):=by exact rfl):g.holds E:=
 rn hT n h (ac d hr hd (fun _=>hA) (fun _=>hB))
theorem bx(n d:Nat)(hr:(bif t then A else B)=some r)(hA:t=true->A=some r->(GS.ops ops l ((d,.pv (.b (.bool true)))::fr) σ k).holds E)(hB:t=false->B=some r->(GS.ops ops l ((d,.pv (.b (.bool false)))::fr) σ k).holds E)(hT:zDa E.P T:=by exact tk)(h:GS.run T E.N n g=some (.ops ops l fr σ k):=by exact rfl)(hd:fr.get d=.pv (.b (.bool t)):=by exact rfl):g.holds E:=
 rn hT n h (bs d hr hd hA hB)
theorem clx(n:Nat){X:Option V}{F:V->Option R}(hr:X.bind F=some r){f:FuncId}{d:Nat}{xs:List Operand}{ats:Array TypeId}{args:List AV}{rv:V->AV}{ty:TypeId}{pos:String}{af:Array Edge}(hc:∀v,X=some v->Run E.P f args (rv v))(hq:∀v,X=some v->F v=some r->(GS.ops ops l ((d,rv v)::fr) σ k).holds E)(hT:zDa E.P T:=by exact tk)(h:GS.run T E.N n g=some (.ops ops (⟨some d,.call ⟨.value (.func f),xs.toArray,ats⟩,ty,pos,af,none⟩::l) fr σ k):=by exact rfl)(hN:Nat.ble (d+1) E.N=true:=by exact rfl)(ha:xs.map (fun x=>(fr.ev x).weak)=args:=by exact rfl):g.holds E:=by
 obtain ⟨v,h1,h2⟩:=zaa hr;exact rn hT n h (cl (hc v h1) hN ha (hq v h1 h2))
theorem csx(n:Nat){X:Option V}{F:V->Option R}(hr:X.bind F=some r){f:FuncId}{d O:Nat}{xs:List Operand}{ats:Array TypeId}{args:List AV}{rv:V->AV}{σ0:Sto}{σ1:V->Sto}{rows:List Nat}{ty:TypeId}{pos:String}{af:Array Edge}(hc:∀v,X=some v->RunS E.P f args σ0 (rv v) (σ1 v) O rows)(hq:∀v,X=some v->F v=some r->(GS.ops ops l ((d,rv v)::fr.clrs rows) (σ1 v++(σ.dels (O::rows)).clrs rows) k).holds E)(hT:zDa E.P T:=by exact tk)(h:GS.run T E.N n g=some (.ops ops (⟨some d,.call ⟨.value (.func f),xs.toArray,ats⟩,ty,pos,af,none⟩::l) fr σ k):=by exact rfl)(hN:Nat.ble (d+1) E.N=true:=by exact rfl)(ha:xs.map (fun x=>(fr.ev x).weak)=args:=by exact rfl)(hs:σ0.map σ.sel=σ0.map (fun p=>some p.2):=by exact rfl):g.holds E:=by
 obtain ⟨v,h1,h2⟩:=zaa hr;exact rn hT n h (wo (Qca (hc v h1) hN ha (stw hs)) rfl (hq v h1 h2))
theorem rfx{P:Program}{f:FuncId}{fn:Func}{c:Code}{args:List AV}{r:AV}(hf:P.funcs[f]? =some fn)
 (h:∀g0 (hg:Gl g0),(GS.code c (z0a 0 args) [] (.base (Kret P fn r) kwb)).holds ⟨P,none,g0,fn.ntmps,false,hg,fun _=>False,fun _ _ h=>h⟩)
 (hb : fn.body = some c := by exact rfl) (hn : (fn.name == "runtime.NumGoroutine") = false := by kernel_rfl) (hN : Nat.ble args.length fn.ntmps = true := by exact rfl) (hr : ∀ k, r.has k = false := by exact fun _ => rfl) : Run P f args r := rf ⟨hf, hb, hn⟩ hN hr h
end
end
section
def Fr.px(fr:Fr):List Nat->Option Fr
 | []=>some []
 | k::ks=>match (fr.get k).force with
  | some a=>(match Fr.px fr ks with | some r=>some ((k,a)::r) | none=>none)
  | none=>none
theorem Fr.px_ok{fr:Fr}:∀{ks:List Nat} {r:Fr},fr.px ks=some r->FrLe fr r/\r.map (fun p=>fr.get p.1)=r.map (·.2)
 | [],r,h=>by cases h;exact ⟨Q7a,rfl⟩
 | k::ks,r,h=>by
  unfold Fr.px at h;split at h
  .rename_i a ha;split at h
   .rename_i r1 h1;cases h;obtain ⟨q1,q2⟩:=Fr.px_ok h1;refine ⟨Z7a (AV.force_eq ha) q1,?_⟩;simp only[jDm,q2,AV.force_eq ha]
   grind
  grind
def Sto.px(σ:Sto):List Nat->Option Sto
 | []=>some []
 | k::ks=>match σ.get k with
  | some a=>(match Sto.px σ ks with | some r=>some ((k,a)::r) | none=>none)
  | none=>none
section
variable {E:Env} {T:Tab} {fr fr' :Fr} {σ σ' :Sto} {k:KS} {ops:Array Oper} {l:List Oper} {R:Type} {r:R} {g:GS}
theorem jq(n:Nat){J:Type}{X:Option J}{f:J->Option R}(hr:X.bind f=some r)(ks os:List Nat)(F:J->Fr)(S:J->Sto){x y:Code}(hx:∀j,X=some j->(GS.code x fr σ (.jo (fun j=>F j++fr') (fun j=>S j++σ') (fun z=>j=z) k)).holds E)(hy:∀j,f j=some r->(GS.code y (F j++fr') (S j++σ') k).holds E)
 (hT:zDa E.P T:=by exact tk) (h:GS.run T E.N n g=some (.code (.seq x y) fr σ k):=by exact rfl) (hf:fr.px ks=some fr' :=by exact rfl) (hs:σ.px os=some σ' :=by exact rfl):g.holds E:=
 rn hT n h (jb hr (fun j=>F j++fr') (fun j=>S j++σ') hx hy)
theorem jkq(n:Nat){J:Type}(ks os:List Nat)(F:J->Fr)(S:J->Sto)(M:J->Prop){x y:Code}(hx:(GS.code x fr σ (.jo (fun j=>F j++fr') (fun j=>S j++σ') M k)).holds E)(hy:∀j,M j->(GS.code y (F j++fr') (S j++σ') k).holds E)
 (hT:zDa E.P T:=by exact tk) (h:GS.run T E.N n g=some (.code (.seq x y) fr σ k):=by exact rfl) (hf:fr.px ks=some fr' :=by exact rfl) (hs:σ.px os=some σ' :=by exact rfl):g.holds E:=
 rn hT n h (jk (fun j=>F j++fr') (fun j=>S j++σ') M hx hy)
theorem ctq(n:Nat){J:Type}{X:Option J}{f:J->Option R}{o:Oper}(hr:X.bind f=some r)(ks os:List Nat)(F:J->Fr)(S:J->Sto)
 (hx:∀j,X=some j->(∀fr1 σ1,(F j++fr').map fr1.sel=F j++fr' ->(S j++σ').map σ1.sel=(S j++σ').map (fun p=>some p.2)->AWPL E ops l fr1 σ1 (k.post E))->(GS.ops ops (o::l) fr σ k).holds E) (hy:∀j,f j=some r->(GS.ops ops l (F j++fr') (S j++σ') k).holds E)
 (hT:zDa E.P T:=by exact tk) (h:GS.run T E.N n g=some (.ops ops (o::l) fr σ k):=by exact rfl) (hf:fr.px ks=some fr' :=by exact rfl) (hs:σ.px os=some σ' :=by exact rfl):g.holds E:=
 rn hT n h (ct hr (fun j=>F j++fr') (fun j=>S j++σ') hx hy)
theorem aq1(n:Nat){A B:Type}{c:Code}{body:A->Option (Step A B)}{s:A}{f:B->Option R}(hr:(iter body s).bind f=some r)(ks os:List Nat)(F:A->Fr)(S:A->Sto)(e0:Exit)(ks1 os1:List Nat)(F1:B->Fr)(S1:B->Sto){fr1:Fr}{σ1:Sto}
 (h:∀s x,body s=some x->(GS.code c (F s++fr') (S s++σ') (.base (jTa (fun s=>F s++fr') (fun s=>S s++σ') (fun b=>At ((fun _=>e0) b) (F1 b++fr1) (S1 b++σ1)) x) jYa)).holds E)
 (hK:∀b,f b=some r->(GS.at e0 (F1 b++fr1) (S1 b++σ1) k).holds E)
 (hT:zDa E.P T:=by exact tk) (hg:GS.run T E.N n g=some (.code (.loop c) fr σ k):=by exact rfl) (h1:fr.px ks=some fr' :=by exact rfl) (h2:σ.px os=some σ' :=by exact rfl) (h3:fr.px ks1=some fr1:=by exact rfl) (h4:σ.px os1=some σ1:=by exact rfl) (hf:(F s++fr').map fr.sel=F s++fr' :=by exact rfl) (hs:(S s++σ').map σ.sel=(S s++σ').map (fun p=>some p.2):=by exact rfl):g.holds E:=
 rn hT n hg (al1 hr (fun s=>F s++fr') (fun s=>S s++σ') e0 (fun b=>F1 b++fr1) (fun b=>S1 b++σ1) hf hs h hK)
theorem aq2(n:Nat){A B C:Type}{c:Code}{body:A->Option (Step A (B ⊕ C))}{s:A}{f:B->Option R}{f2:C->Option R}(hr:(iter body s).bind (Sum.elim f f2)=some r)(ks os:List Nat)(F:A->Fr)(S:A->Sto)(e1:Exit)(ks1 os1:List Nat)(F1:B->Fr)(S1:B->Sto)(e2:Exit)(ks2 os2:List Nat)(F2:C->Fr)(S2:C->Sto){fr1 fr2:Fr}{σ1 σ2:Sto}
 (h:∀s x,body s=some x->(GS.code c (F s++fr') (S s++σ') (.base (jTa (fun s=>F s++fr') (fun s=>S s++σ') (fun b=>At (Sum.elim (fun _=>e1) (fun _=>e2) b) (Sum.elim (fun b=>F1 b++fr1) (fun b=>F2 b++fr2) b) (Sum.elim (fun b=>S1 b++σ1) (fun b=>S2 b++σ2) b)) x) jYa)).holds E)
 (hK1:∀b,f b=some r->(GS.at e1 (F1 b++fr1) (S1 b++σ1) k).holds E) (hK2:∀b,f2 b=some r->(GS.at e2 (F2 b++fr2) (S2 b++σ2) k).holds E)
 (hT:zDa E.P T:=by exact tk) (hg:GS.run T E.N n g=some (.code (.loop c) fr σ k):=by exact rfl) (h1:fr.px ks=some fr' :=by exact rfl) (h2:σ.px os=some σ' :=by exact rfl) (h3:fr.px ks1=some fr1:=by exact rfl) (h4:σ.px os1=some σ1:=by exact rfl) (h5:fr.px ks2=some fr2:=by exact rfl) (h6:σ.px os2=some σ2:=by exact rfl) (hf:(F s++fr').map fr.sel=F s++fr' :=by exact rfl) (hs:(S s++σ').map σ.sel=(S s++σ').map (fun p=>some p.2):=by exact rfl):g.holds E:=
 rn hT n hg (al2 hr (fun s=>F s++fr') (fun s=>S s++σ') e1 (fun b=>F1 b++fr1) (fun b=>S1 b++σ1) e2 (fun b=>F2 b++fr2) (fun b=>S2 b++σ2) hf hs h hK1 hK2)
def fjoin(a b c:List AV):Option (List AV):=wLa (a++b++c)
theorem iq(n:Nat){d f:Nat}{fn:Func}{c:Code}{fx:Operand}{xs:List Operand}{ats:Array TypeId}{first cap args:List AV}{ty:TypeId}{pos:String}{af:Array Edge}(base:Nat)(ks:List Nat){keep:Fr}(hok:FnOk E.P f fn c)
 (h:∀(T:Array Value) (ds:List Deferred),(GS.code c (z0a 0 args) ((base+99999,.sus E.g0.w.heap.size ds)::(holds base T keep++σ)) (.base (InlK E ops l d fn base (base+99999) T ds (k.post E)) v8b)).holds ⟨E.P,none,E.g0,fn.ntmps,true,E.gl,E.S,E.sg⟩)
 (hT:zDa E.P T:=by exact tk) (hg:GS.run T E.N n g=some (.ops ops (⟨some d,.call ⟨.value fx,xs.toArray,ats⟩,ty,pos,af,none⟩::l) fr σ k):=by exact rfl) (hf:fr.ev fx=.fn (.func f) first cap:=by exact rfl) (ha:fjoin first (xs.map fr.ev) cap=some args:=by exact rfl) (hN:(Nat.ble (d+1) E.N && Nat.ble args.length fn.ntmps)=true:=by exact rfl) (hk:fr.px ks=some keep:=by exact rfl):g.holds E:=
 rn hT n hg (il base (base+99999) keep hf hok hN (qla ha) (Fr.px_ok hk).2 h)
def Sto.held(base:Nat):Sto->Option Fr
 | []=>some []
 | (k,ob)::r=>match ob with
  | .hold v _=>(match (Nat.ble base k && Nat.ble (k+1) (base+99999)) with
   | true=>(match v.force,Sto.held base r with | some a,some f=>some ((k - base,a)::f) | _,_=>none)
   | false=>Sto.held base r)
  | _=>Sto.held base r
def Sto.less(base:Nat):Sto->Option Sto
 | []=>some []
 | (k,ob)::r=>match (Nat.ble base k && Nat.ble k (base+99999)) with
  | true=>Sto.less base r
  | false=>(match Sto.less base r with | some f=>some ((k,ob)::f) | none=>none)
theorem ieq{E' :Env}(n:Nat){fr2:Fr}{σ2:Sto}{cs:List AV}{d:Nat}{fn:Func}{base:Nat}{Tm:Array Value}{ds:List Deferred}{e:Exit}{hm:Mono (InlK E ops l d fn base (base+99999) Tm ds (k.post E))}
 (h:AWPL E ops l ((d,retI cs)::fr2) σ2 (k.post E)) (hT:zDa E'.P T:=by exact tk) (hg:GS.run T E'.N n g=some (.at e fr σ (.base (InlK E ops l d fn base (base+99999) Tm ds (k.post E)) hm)):=by exact rfl) (he:isR e=true:=by exact rfl) (hr:Qja T fr σ fn.results.toList=some cs:=by exact rfl) (h1:σ.held base=some fr2:=by exact rfl) (h2:σ.less base=some σ2:=by exact rfl)
 (hh:fr2.map (fun p=>σ.get (base+p.1))=fr2.map (fun p=>some (.hold p.2 (Tm.getD p.1 undef))):=by exact rfl) (hsu:σ.get (base+99999)=some (.sus E.g0.w.heap.size ds):=by exact rfl) (hle:σ2.map σ.sel=σ2.map (fun p=>some p.2):=by exact rfl) (hE:E.P=E'.P:=by exact rfl):g.holds E' :=
 rn hT n hg (ie (hE▸hT) cs fr2 σ2 (Znb he) hr hh hsu hle h)
def purL(l:List Oper)(cs:List (Option AV))(fr:Fr):Fr:=purF l cs (allT l)++fr
theorem mdq(n:Nat){id:Nat}(tl:List (Nat × AV))(ks:List Nat){frJ:Fr}{ss:List Sto}{σJ:Sto}{cs:List (Option AV)}(ht:Told E l cs fr (σ::ss) tl)(h:(GS.at .normal frJ σJ k).holds E)
 (hmix:E.P.follows .mixedOrders=true) (hT:zDa E.P T:=by exact tk) (hg:GS.run T E.N n g=some (.code (.region id l.toArray true) fr σ k):=by exact rfl) (hz:zrun T E.N tl l 0 fr σ=some (cs,ss,σJ):=by exact rfl)
 (hk:(zchk E.N tl l cs,(List.range ((hvL l cs).length+1)).map (fun k=>(purK l cs tl k).map (zOb T l cs fr (stoK σ ss k))),(List.range (hvL l cs).length).map (stoD T E.N l cs fr σ ss),stoK σ ss (hvL l cs).length)=(true,(List.range ((hvL l cs).length+1)).map (fun k=>(purK l cs tl k).map (Qka cs)),(List.range (hvL l cs).length).map (fun k=>some (stoK σ ss (k+1))),σJ):=by kernel_rfl)
 (hf:(purL l cs fr).px ks=some frJ:=by exact rfl):g.holds E:=
 rn hT n hg (mc hT tl frJ hmix hz hk ht (Fr.px_ok hf).1 h)
end
end
section
variable {E:Env} {T:Tab} {fr FR:Fr} {σ:Sto} {k:KS} {l:List Oper} {cs:List AV} {kn:List (Nat × Bool)} {tl:List (Nat × AV)} {g:GS}
def kget:List (Nat × Bool)->Nat->Option Bool
 | [],_=>none
 | (d,b)::r,i=>bif Nat.beq d i then some b else kget r i
inductive qsb (FR:Fr):List (Nat × Bool)->Prop
 | nil:qsb FR []
 | cons {d:Nat} {b t:Bool} {r:List (Nat × Bool)} (hv:FR.get d=.pv (.b (.bool t))) (ht:t=b) (hr:qsb FR r):qsb FR ((d,b)::r)
theorem qsb.get(h:qsb FR kn){d:Nat}{b:Bool}(hk:kget kn d=some b):∃t,FR.get d=.pv (.b (.bool t))/\t=b:=by
 induction h with
 | nil=>cases hk
 | @cons e b' t r hv ht _ ih=>
  unfold kget at hk;cases hb:Nat.beq e d with
  | true=>simp_all
  | false=>simp_all
def gsee(l:List Oper)(kn:List (Nat × Bool))(FR:Fr)(o:Oper):Option Bool:=match o.guard with
 | none=>some true
 | some (j,want)=>(match (l[j]?).bind (·.dst) with
  | none=>none
  | some d=>(match kget kn d with
   | some b=>some (b==want)
   | none=>(match FR.get d with | .tup []=>some false | .pv (.b (.bool t))=>(match t,want with | true,w=>some w | false,w=>some (!w)) | _=>none)))
theorem vKb(hk:qsb FR kn){o:Oper}{b:Bool}(h:gsee l kn FR o=some b):(b=true->kta l.toArray FR o)/\(b=false->Zwa l.toArray FR o):=by
 unfold gsee at h;split at h
 .rename_i hg;cases h;exact ⟨fun _=>.plain hg,fun e=>by cases e⟩
 rename_i j want hg;split at h
 .cases h
 rename_i d hd;have hj:(l.toArray[j]?).bind (·.dst)=some d:=by simpa using hd
 split at h
 .rename_i b' hb;obtain ⟨t,hv,ht⟩:=hk.get hb;cases h;refine ⟨fun e=>.yes hg hj hv ?_,fun e=>.no hg hj hv ?_⟩
  .simp_all
  rw[ht];cases b' <;> cases want <;> simp_all
 split at h
 .rename_i hv;cases h;exact ⟨fun e=>(by cases e),fun _=>.none hg hj hv⟩
 .rename_i t hv;split at h
  .cases h;exact ⟨fun e=>.yes hg hj hv e.symm,fun e=>.no hg hj hv (by grind)⟩
  cases h;exact ⟨fun e=>.yes hg hj hv (by simp_all),fun e=>.no hg hj hv (by simp_all)⟩
 grind
def dval(T:Tab)(kn:List (Nat × Bool))(FR:Fr)(σ:Sto)(op:Op):Option AV:=match op with
 | .pick (.tmp d) x y=>(match kget kn d with | some true=>(FR.ev x).force | some false=>(FR.ev y).force | none=>qval T FR.ev σ op)
 | _=>qval T FR.ev σ op
theorem dval_ok(hT:zDa E.P T)(hk:qsb FR kn){o:Oper}{c:AV}(h:dval T kn FR σ o.op=some c):OpG E o FR σ c:=by
 obtain ⟨dst,op,ty,pos,af,gu⟩:=o;dsimp only at h;unfold dval at h;split at h
 .split at h
  .rename_i hb;obtain ⟨t,hv,ht⟩:=hk.get hb;rw[<-AV.force_eq h];exact zGa (Z9a hv ht)
  .rename_i hb;obtain ⟨t,hv,ht⟩:=hk.get hb;rw[<-AV.force_eq h];exact zGa (Q9a hv ht)
  exact zGa (Kfa hT h)
 exact zGa (Kfa hT h)
def drun(T:Tab)(l:List Oper)(kn:List (Nat × Bool))(σ:Sto)(tl:List (Nat × AV)):List Oper->Nat->Fr->Option (List AV)
 | [],_,_=>some []
 | o::r,i,fr=>match o.dst with
  | none=>none
  | some d=>(match (match gsee l kn fr o with
   | some true=>(match tget tl i with | some c=>some c | none=>dval T kn fr σ o.op)
   | some false=>some (.tup [])
   | none=>none) with
   | some c=>(match drun T l kn σ tl r (i+1) ((d,c)::fr) with | some cs=>some (c::cs) | none=>none)
   | none=>none)
def dchk(T:Tab)(l:List Oper)(kn:List (Nat × Bool))(FR:Fr)(σ:Sto)(tl:List (Nat × AV))(cs:List AV)(i:Nat):Option AV:=match l[i]? with
 | none=>none
 | some o=>(match gsee l kn FR o with
  | some true=>(match tget tl i with | some _=>cs[i]? | none=>dval T kn FR σ o.op)
  | some false=>some (.tup [])
  | none=>none)
inductive ysb (E:Env) (l:List Oper) (cs:List AV) (FR:Fr) (σ:Sto):List (Nat × AV)->Prop
 | nil:ysb E l cs FR σ []
 | cons {i:Nat} {c:AV} {o:Oper} {r:List (Nat × AV)} (ho:l[i]? =some o) (hc:cs[i]? =some c) (h:OpG E o FR σ c) (hr:ysb E l cs FR σ r):ysb E l cs FR σ ((i,c)::r)
theorem ysb.get(h:ysb E l cs FR σ tl){i:Nat}{c:AV}(hi:tget tl i=some c):∃o c,l[i]? =some o/\cs[i]? =some c/\OpG E o FR σ c:=by
 induction h with
 | nil=>cases hi
 | @cons k c o r ho hc h _ ih=>
  unfold tget at hi;cases hb:Nat.beq k i with
  | true=>simp_all
  | false=>simp_all
theorem Zob:∀{l' :List Oper} {cs' :List AV},cs'.length=l'.length->(∀(i:Nat) o c,l'[i]? =some o->cs'[i]? =some c->(kta l.toArray FR o/\OpG E o FR σ c)∨(Zwa l.toArray FR o/\c=.tup []))->Pres E l.toArray FR σ l' cs'
 | [],[],_,_=>.nil
 | [],_::_,h,_=>by grind
 | _::_,[],h,_=>by grind
 | o::r,c::cs,hl,h=>by
  have ih:=Zob (l' :=r) (cs' :=cs) (by simp_all) fun i o c h1 h2=>h (i+1) o c (by simp_all) (by simp_all)
  rcases h 0 o c rfl rfl with ⟨h1,h2⟩ | ⟨h1,rfl⟩
  .exact .run h1 h2 ih
  exact .skip h1 ih
def wub:Fr->Option Fr
 | []=>some []
 | (k,a)::r=>match a.force with
  | some a' =>(match wub r with | some r' =>some ((k,a')::r') | none=>none)
  | none=>none
theorem qtb:∀{f f' :Fr},wub f=some f' ->f=f'
 | [],_,h=>by cases h;rfl
 | (k,a)::r,f',h=>by
  unfold wub at h;split at h
  .rename_i a' ha;split at h
   .rename_i r' hr;cases h;rw[AV.force_eq ha,qtb hr]
   grind
  grind
theorem dq(n:Nat){id:Nat}(m:Nat)(kn:List (Nat × Bool))(tl:List (Nat × AV)){new:Fr}(hf:qsb (new++fr) kn)(ht:ysb E l cs (new++fr) σ tl)(h:(GS.ops l.toArray (l.drop m) (new++fr) σ k).holds E)
 (hmix:E.P.follows .mixedOrders=true) (hT:zDa E.P T:=by exact tk) (hg:GS.run T E.N n g=some (.code (.region id l.toArray true) fr σ k):=by exact rfl) (hz:drun T l kn σ tl (l.take m) 0 fr=some cs:=by exact rfl) (hn:wub (wKa (l.take m) cs [])=some new:=by exact rfl)
 (hk:(y5b l m && Nat.ble m l.length && ((l.take m).all fun o=>o.dst.all fun d=>Nat.ble (d+1) E.N) && Nat.beq cs.length m,(List.range m).map (dchk T l kn (new++fr) σ tl cs))=(true,(List.range m).map (cs[·]?)):=by kernel_rfl):g.holds E:=by
 have k1:=congrArg Prod.fst hk;have k2:=congrArg Prod.snd hk;simp only[jAn]at k1;obtain ⟨⟨⟨q1,q2⟩,q3⟩,q4⟩:=k1;have hlen:=jAl q4;have hm:=jAf q2;refine rn hT n hg (y6b m new hmix q1 q2 q3 (Zob (by grind) fun i o c h1 h2=>?_) (qtb hn) h);have him:i < m:=by have:=(jAd.1 h1).1;simp at this;omega
 rw[jBd him]at h1;have e:=jCx.1 k2 i (jDf.2 him);unfold dchk at e;rw[h1,h2]at e;dsimp only at e;split at e
 .rename_i hg;split at e
  .rename_i c' hc;obtain ⟨o',c'',e1,e2,e3⟩:=ht.get hc;rw[h1]at e1;rw[h2]at e2;cases e1;cases e2;exact .inl ⟨(vKb hf hg).1 rfl,e3⟩
  exact .inl ⟨(vKb hf hg).1 rfl,dval_ok hT hf e⟩
 .rename_i hg;cases e;exact .inr ⟨(vKb hf hg).2 rfl,rfl⟩
 grind
end
theorem ytb(a0:List Int)(a1:List Int)(r:Bool)(hr:jSb a0 a1=some r):Run prog 25 [.l cI a0,.l cI a1] (.bo r):=by
 unfold jSb at hr;refine rfx (fn:=Tryz.f25) func25 fun g0 hg=>?_
 refine rn tk 9 rfl<|wn tk rfl rfl rfl<|rn tk 1 rfl<|wn tk rfl rfl rfl ?_;refine ax 3 10 hr (fun hr=>?_) fun hr=>?_
 .exact kx 7 hr
 refine aq2 9 hr [0,1] [] (fun s2=>[(5,.i s2)]) (fun _=>[]) (.exit 0) [] [] (fun _=>[]) (fun _=>[]) .ret [] [] (fun b4=>[(4,.bo b4)]) (fun _=>[]) (fun s2 x6 hr=>?_) (fun b3 hr=>?_) (fun b4 hr=>?_)
 .unfold k5b at hr;refine rn tk 5 rfl<|wn tk rfl rfl rfl ?_;refine ax 3 14 hr (fun hr=>?_) fun hr=>?_
  .refine rn tk 5 rfl ?_;obtain ⟨v8,h9,hr⟩:=zaa hr;obtain ⟨v10,h11,hr⟩:=zaa hr;refine mdq 0 [(2,.ep [pI v8]),(6,.ep [pI v10])] [0,1,5,25] (.cons rfl rfl (t0 (zGa (ZSa (f:=cI) rfl rfl zRb yJa rfl h9))) (.cons rfl rfl (t0 (zGa (ZSa (f:=cI) rfl rfl zRb yJa rfl h11))) .nil)) ?_ mixed;refine ax 1 25 hr (fun hr=>?_) fun hr=>?_
   .exact ox 8 hr
   exact cx 8 hr
  exact ox 2 hr
 .exact kx 8 hr
 exact kx 2 hr
theorem zha(a0:zja)(r:Bool)(hr:zna a0=some r):Run prog 18 [.agg [.i a0.Code,.i a0.Index]] (.bo r):=by
 unfold zna at hr;refine rfx (fn:=f18) func18 fun g0 hg=>?_
 exact kx 15 hr
theorem zga(a0:Int)(a1:Int)(r:zja)(hr:zla a0 a1=some r):Run prog 28 [.i a0,.i a1] (.agg [.i r.Code,.i r.Index]):=by
 unfold zla at hr;refine rfx (fn:=Tryz.f28) func28 fun g0 hg=>?_
 exact kx 14 hr
theorem zma(r:zja)(hr:zva=some r):Run prog 21 [] (.agg [.i r.Code,.i r.Index]):=by
 unfold zva at hr;refine rfx (fn:=Tryz.f21) func21 fun g0 hg=>?_
 exact kx 12 hr
theorem kab(a0:Str)(r:Bool)(hr:Koa a0=some r):Run prog 83 [.s a0] (.bo r):=by
 unfold Koa at hr;refine rfx (fn:=f83) func83 fun g0 hg=>?_
 refine jq 5 hr [] [] (fun j1=>[(2,.bo j1)]) (fun _=>[]) (fun j1 hr=>?_) (fun j1 hr=>?_)
 .refine bx 4 5 hr (fun c2 hr=>?_) fun c2 hr=>?_
  .refine bx 5 10 hr (fun c3 hr=>?_) fun c3 hr=>?_
   .refine rn tk 1 rfl<|ug rfl rfl rfl ?_;refine ctq 0 hr [10] [] (fun j4=>[(12,.bo j4)]) (fun _=>[]) (fun j4 hr jump4=>?_) (fun j4 hr=>?_)
    .refine iq 0 400000 [10] (fn:=f102) ⟨func102,rfl,by kernel_rfl⟩ fun T4 ds4=>?_
     refine aq2 14 hr [0,1,7] [499999,400010] (fun s5=>[(8,.i s5)]) (fun _=>[]) (.exit 0) [] [499999,400010] (fun _=>[]) (fun _=>[]) .ret [4] [499999,400010] (fun _=>[]) (fun _=>[]) (fun s5 x9 hr=>?_) (fun b6 hr=>?_) (fun b7 hr=>?_)
     .unfold wOa at hr;refine ax 6 9 hr (fun hr=>?_) fun hr=>?_
      .refine rn tk 15 rfl ?_;obtain ⟨v11,h12,hr⟩:=zaa hr;refine ws tk h12 rfl rfl rfl rfl ?_;refine iq 0 600000 [0,1,7,8] (fn:=f125) ⟨func125,rfl,by kernel_rfl⟩ fun T6 ds6=>?_
       refine jq 5 hr [] [699999,600000,600001,600007,600008,499999,400010] (fun j13=>[(2,.bo j13)]) (fun _=>[]) (fun j13 hr=>?_) (fun j13 hr=>?_)
       .refine bx 4 5 hr (fun c14 hr=>?_) fun c14 hr=>?_
        .refine bx 4 9 hr (fun c15 hr=>?_) fun c15 hr=>?_
         .exact jx 5 hr
         exact jx 5 hr
        exact jx 9 hr
       refine ieq 1 (hO ?_);refine ax 3 16 hr (fun hr=>?_) fun hr=>?_
       .exact ox 8 hr
       exact cx 7 hr
      exact ox 2 hr
     .refine ieq 8 ?_;cases hr;exact jump4 _ _ rfl rfl
     refine ieq 2 ?_;cases hr;exact jump4 _ _ rfl rfl
    exact jx 3 hr
   exact jx 5 hr
  exact jx 10 hr
 exact kx 1 hr
theorem q8a(a0:UInt8)(r:Bool)(hr:qAa a0=some r):Run prog 93 [.u8 a0] (.bo r):=by
 unfold qAa at hr;refine rfx (fn:=f93) func93 fun g0 hg=>?_
 refine jq 5 hr [] [] (fun j1=>[(2,.bo j1)]) (fun _=>[]) (fun j1 hr=>?_) (fun j1 hr=>?_)
 .refine bx 4 5 hr (fun c2 hr=>?_) fun c2 hr=>?_
  .exact jx 5 hr
  exact jx 5 hr
 exact kx 1 hr
theorem Jya(a0:Str)(a1:Int)(r:Int)(hr:j4a a0 a1=some r):Run prog 85 [.s a0,.i a1] (.i r):=by
 unfold j4a at hr;refine rfx (fn:=f85) func85 fun g0 hg=>?_
 refine rn tk 14 rfl<|wq (v6b rfl rfl) rfl rfl rfl ?_;refine aq1 4 hr [0] [] (fun s1=>[(5,.i s1.1),(6,.i s1.2)]) (fun _=>[]) (.exit 0) [] [] (fun b2=>[(5,.i b2)]) (fun _=>[]) (fun s1 x3 hr=>?_) (fun b2 hr=>?_)
 .unfold yna at hr;refine ax 9 12 hr (fun hr=>?_) fun hr=>?_
  .refine jkq 2 [0,6] [] (fun j5=>[(5,.i j5)]) (fun _=>[]) (fun j5=>qBa s1 j5=some x3) ?_ ?_
   .refine jq 2 hr [0,5,6] [] (fun j6=>[(26,.bo j6)]) (fun _=>[]) (fun j6 hr=>?_) (fun j6 hr=>?_)
    .refine rn tk 3 rfl ?_;obtain ⟨v7,h8,hr⟩:=zaa hr;refine ws tk h8 rfl rfl rfl rfl ?_;refine clx 0 hr (q8a _) fun v9 _ hr=>?_
     refine bx 2 20 hr (fun c11 hr=>?_) fun c11 hr=>?_
     .exact jx 7 hr
     refine rn tk 3 rfl ?_;obtain ⟨v12,h13,hr⟩:=zaa hr;refine ug rfl rfl rfl<|ws tk h13 rfl rfl rfl rfl ?_;obtain ⟨v14,h15,hr⟩:=zaa hr;refine ug rfl rfl rfl<|cl (q8a _ _ h15) rfl rfl ?_;exact jx 2 hr
    refine ax 0 26 hr (fun hr=>?_) fun hr=>?_
    .refine rn tk 3 rfl<|jn s1.1 hr rfl rfl
    refine jq 3 hr [0,5,6] [] (fun j17=>[(32,.bo j17)]) (fun _=>[]) (fun j17 hr=>?_) (fun j17 hr=>?_)
    .refine bx 4 29 hr (fun c18 hr=>?_) fun c18 hr=>?_
     .exact jx 4 hr
     exact jx 4 hr
    refine ax 0 32 hr (fun hr=>?_) fun hr=>?_
    .exact ox 4 hr
    refine rn tk 7 rfl<|jn s1.2 hr rfl rfl
   intro j5 hr;unfold qBa at hr;exact cx 5 hr
  exact ox 2 hr
 exact kx 9 hr
end Go.Proofs.YthbbeodmpnmopaaGreatDoor
