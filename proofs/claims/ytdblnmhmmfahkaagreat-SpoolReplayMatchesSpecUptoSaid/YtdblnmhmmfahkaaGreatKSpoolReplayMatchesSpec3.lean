/- Part 3 of the proof of the law SpoolReplayMatchesSpec: what it needs. -/
import Derived.Test.YtdblnmhmmfahkaaGreatKSpoolReplayMatchesSpec2
import Derived.Test.YtdblnmhmmfahkaaGreatProg
import Derived.Lib.IndexMore
import Derived.Lib.IndexAny
import Derived.Lib.Atoi
import Derived.Lib.Join
import Derived.Lib.Repeat
import Derived.Lib.Split
import Derived.Lib.FieldsP
import Derived.Lib.Strings
import Derived.Shelf.Strings.SlTrimAscii
set_option linter.unusedVariables false
set_option linter.unusedSimpArgs false
set_option maxRecDepth 100000
set_option maxHeartbeats 40000000
namespace Go.Proofs.YtdblnmhmmfahkaaGreat
open Go.RowKit Go.Proofs.Tryz
section
open Go.RowKit Go.Lib Go.Proofs.Tryz
variable {E:Env} {fr:Fr} {σ:Sto} {K:Post} {T:Tab} {l:List Oper} {cs:List (Option AV)} {all:List Node} {H:List Bool}
def tget:List (Nat × AV)->Nat->Option AV
 | [],_=>none
 | (k,c)::r,i=>bif Nat.beq k i then some c else tget r i
def zrun(T:Tab)(N:Nat)(tl:List (Nat × AV)):List Oper->Nat->Fr->Sto->Option (List (Option AV) × List Sto × Sto)
 | [],_,_,σ=>some ([],[],σ)
 | o::r,i,fr,σ=>match o.dst with
  | none=>(match opDo T N o fr σ with
   | some (_,σ')=>(match zrun T N tl r (i+1) fr σ' with
    | some (cs,ss,sj)=>some (none::cs,σ' ::ss,sj)
    | none=>none)
   | none=>none)
  | some d=>(match (match tget tl i with | some c=>some c | none=>qval T fr.ev σ o.op) with
   | some c=>(match zrun T N tl r (i+1) ((d,c)::fr) σ with
    | some (cs,ss,sj)=>some (some c::cs,ss,sj)
    | none=>none)
   | none=>none)
def hvL(l:List Oper)(cs:List (Option AV)):List Nat:=(List.range l.length).filter (isHv cs)
def hvH(l:List Oper)(cs:List (Option AV))(k:Nat):List Bool:=(List.range l.length).map fun i=>((hvL l cs).take k).contains i
def stoK(σ:Sto)(ss:List Sto)(k:Nat):Sto:=(σ::ss).getD k σ
def nodK(l:List Oper)(cs:List (Option AV))(fr:Fr)(σ:Sto)(ss:List Sto)(k:Nat):Node:=(hvH l cs k,fr,stoK σ ss k)
def nods(l:List Oper)(cs:List (Option AV))(fr:Fr)(σ:Sto)(ss:List Sto):List Node:=(List.range ((hvL l cs).length+1)).map (nodK l cs fr σ ss)
def purK(l:List Oper)(cs:List (Option AV))(tl:List (Nat × AV))(k:Nat):List Nat:=(mayL l cs (hvH l cs k)).filter fun i=> !(isHv cs i) && (tget tl i).isNone
def stoD(T:Tab)(N:Nat)(l:List Oper)(cs:List (Option AV))(fr:Fr)(σ:Sto)(ss:List Sto)(k:Nat):Option Sto:=match l[(hvL l cs).getD k 0]? with
 | some o=>(match o.dst with
  | none=>(opDo T N o (purF l cs (allT l)++fr) (stoK σ ss k)).map Prod.snd
  | some _=>none)
 | none=>none
def zchk(N:Nat)(tl:List (Nat × AV))(l:List Oper)(cs:List (Option AV)):Bool:=
 vtb N l cs &&
 ((List.range ((hvL l cs).length+1)).all fun k=>(mayL l cs (hvH l cs k)).all fun i=> !(isHv cs i) || (Nat.beq i ((hvL l cs).getD k 0) && Nat.ble (k+1) (hvL l cs).length)) &&
 ((List.range (hvL l cs).length).all fun k=>((hvH l cs k).set ((hvL l cs).getD k 0) true==hvH l cs (k+1)) && !((List.range l.length).all fun i=> !(isHv cs i) || (hvH l cs k).getD i false)) &&
 (hvH l cs 0==List.replicate l.length false) &&
 ((List.range ((hvL l cs).length+1)).all fun k=>(purK l cs tl k).all fun i=>(Ypa cs i).isSome)
inductive Told (E:Env) (l:List Oper) (cs:List (Option AV)) (fr:Fr) (L:List Sto):List (Nat × AV)->Prop
 | nil:Told E l cs fr L []
 | cons {i:Nat} {c:AV} {o:Oper} {r:List (Nat × AV)} (ho:l[i]? =some o) (hc:cs[i]? =some (some c)) (h:∀s,s∈L->OpG E o (purF l cs (allT l)++fr) s c) (hr:Told E l cs fr L r):Told E l cs fr L ((i,c)::r)
theorem t0{o:Oper}{FR:Fr}{c:AV}(h:OpG E o FR σ c):∀s,s∈ [σ]->OpG E o FR s c:=fun s hs=>by
 rw[jCe.1 hs];exact h
theorem Told.get{L:List Sto}{tl:List (Nat × AV)}(h:Told E l cs fr L tl){i:Nat}(hi:(tget tl i).isSome=true):∃o c,l[i]? =some o/\cs[i]? =some (some c)/\∀s,s∈L->OpG E o (purF l cs (allT l)++fr) s c:=by
 induction h with
 | nil=>cases hi
 | @cons k c o r ho hc h _ ih=>
  unfold tget at hi;cases hb:Nat.beq k i with
  | true=>
   have:=jAn hb;subst this;exact ⟨o,c,ho,hc,h⟩
  | false=>rw[hb]at hi;exact ih hi
theorem Kva.of:∀{r:List Node},(∀nd∈r,qHb E l cs K all nd)->Kva E l cs K all r
 | [],_=>.nil
 | nd::r,h=>.cons (h nd (by simp)) (Kva.of fun x hx=>h x (by simp[hx]))
theorem opDo_sto{N:Nat}{o:Oper}{FR:Fr}{p:Fr × Sto}(hT:kYa E.P T)(hN:N=E.N)(hd:o.dst=none)(h:opDo T N o FR σ=some p):HvS E o FR σ p.2:=by
 subst hN;obtain ⟨f2,σ'⟩:=p;refine ⟨fun fr he _=>?_⟩;refine zwb hT ?_;obtain ⟨dst,op,ty,pos,af,gu⟩:=o;dsimp only at hd;subst hd;unfold opDo at h ⊢;dsimp only at h ⊢;cases op
 case store t x y=>
  have e1:=he x (by simp[Op.operands,Call.operands]);have e2:=he y (by simp[Op.operands,Call.operands]);dsimp only at h ⊢;rw[e1,e2];split at h
  .rename_i row hr;split at h
   .rename_i b off hx;split at h
    .rename_i cs' ho;split at h
     .rename_i vs hy;cases hb:(Nat.beq vs.length row.size && Nat.ble (off+vs.length) cs'.length) with
      | false=>rw[hb]at h;cases h
      | true=>
       rw[hb]at h;simp only[cond_true]at h ⊢;split at h
       .rename_i c2 hc2;split at h
        .rename_i s2 hs2;cases h;simp only[hr,hx,ho,hy,hb,hc2,hs2,cond_true]
        cases h
       cases h
     cases h
    cases h
   cases h
  cases h
 all_goals cases h
theorem mc(hT:kYa E.P T){id:Nat}(tl:List (Nat × AV))(frJ:Fr){ss:List Sto}{σJ:Sto}(hmix:E.P.follows .mixedOrders=true)(hz:zrun T E.N tl l 0 fr σ=some (cs,ss,σJ))
 (hk:(zchk E.N tl l cs,(List.range ((hvL l cs).length+1)).map (fun k=>(purK l cs tl k).map (whb T l cs fr (stoK σ ss k))),(List.range (hvL l cs).length).map (stoD T E.N l cs fr σ ss),stoK σ ss (hvL l cs).length)=(true,(List.range ((hvL l cs).length+1)).map (fun k=>(purK l cs tl k).map (Ypa cs)),(List.range (hvL l cs).length).map (fun k=>some (stoK σ ss (k+1))),σJ))
 (ht:Told E l cs fr (σ::ss) tl) (hf:FrLe (purF l cs (allT l)++fr) frJ) (h:K .normal frJ σJ):AWP E (.region id l.toArray true) fr σ K:=by
 have k1:=congrArg (fun x=>x.1) hk;have k2:=congrArg (fun x=>x.2.1) hk;have k3:=congrArg (fun x=>x.2.2.1) hk;have k4:=congrArg (fun x=>x.2.2.2) hk;dsimp only at k1 k2 k3 k4;rw[<-k4]at h;have hin:∀k,stoK σ ss k∈σ::ss:=fun k=>by
  unfold stoK;rw[jAm];cases hg:(σ::ss)[k]? with
  | none=>simp
  | some s=>exact jAd hg
 simp only[zchk,jAs,jAx]at k1;obtain ⟨⟨⟨⟨q1,q2⟩,q3⟩,q4⟩,q5⟩:=k1;have hget:∀k,k < (hvL l cs).length+1->(nods l cs fr σ ss)[k]? =some (nodK l cs fr σ ss k):=fun k hk=>by
  unfold nods;rw[jAr,List.getElem?_range hk];rfl
 refine VYa cs (nods l cs fr σ ss) hmix q1 (hget 0 (by omega)) (by simpa using q4) q1a kRa (Kva.of fun nd hnd=>?_);obtain ⟨k,hk',rfl⟩:=jCb.1 hnd;have hkr:k < (hvL l cs).length+1:=by simpa using hk'
 have steps:wXa E l cs (nods l cs fr σ ss) (hvH l cs k) fr (stoK σ ss k) (mayL l cs (hvH l cs k)):=wXa.of fun i hi=>by
  have hi2:=q2 k (by simpa using hkr) i hi;cases hh:isHv cs i with
  | true=>
   rw[hh]at hi2;simp only[jBg,jCy,jAs]at hi2;have hik:=jAn hi2.1;have hkn:=jAe hi2.2;have h3:=List.map_inj_left.1 k3 k (jDl.2 (by omega));have hq3:=q3 k (jDl.2 (by omega));simp only[jAs,beq_iff_eq]at hq3;unfold stoD at h3;rw[<-hik]at h3 hq3;split at h3
   .rename_i o ho;split at h3
    .rename_i hd;obtain ⟨p,hp,hp2⟩:=jAi.1 h3;have hc:cs[i]? =some none:=by
      unfold isHv at hh;split at hh
      .rename_i e;exact e
      cases hh
     have hs:=opDo_sto hT rfl hd hp;rw[hp2]at hs;exact .sto (k+1) ho hc hs (by rw[hget (k+1) (by omega)];unfold nodK;rw[hq3.1]) q1a kRa
    cases h3
   cases h3
  | false=>
   cases htl:tget tl i with
   | some c0=>
    obtain ⟨o,c,e1,e2,e3⟩:=ht.get (i:=i) (by rw[htl];rfl);exact .pure e1 e2 (e3 _ (hin k))
   | none=>
    have hm:i∈purK l cs tl k:=by
     unfold purK;rw[jCv];exact ⟨hi,by rw[hh,htl];rfl⟩
    have e1:=List.map_inj_left.1 k2 k (by simpa using hkr);have hq:whb T l cs fr (stoK σ ss k) i=Ypa cs i:=List.map_inj_left.1 e1 i hm;have hs:=q5 k (by simpa using hkr) i hm;obtain ⟨c,hcc⟩:=Option.isSome_iff_exists.1 hs;rw[hcc]at hq;obtain ⟨o,ho,hv⟩:=jDp.1 hq;obtain ⟨x,hx,hxc⟩:=jDp.1 hcc;have hxc:x=some c:=hxc;subst hxc;exact .pure ho hx (zua (Yga hT hv))
 by_cases hkn:k < (hvL l cs).length
 .have hq3:=q3 k (by simpa using hkn);simp only[jAs,jBs]at hq3;exact .step _ rfl hq3.2 steps
 have:k=(hvL l cs).length:=by omega
 subst this;exact .full _ rfl steps hf kRa h
end
section
open Go.RowKit Go.Lib Go.Proofs.Tryz
def Fr.mp(f:AV->AV):Fr->Fr
 | []=>[]
 | (k,c)::l=>(k,f c)::Fr.mp f l
def AO.mp(f:AV->AV):AO->AO
 | .cells cs=>.cells (cs.map f)
 | .hold c v=>.hold (f c) v
 | o=>o
def Sto.mp(f:AV->AV):Sto->Sto
 | []=>[]
 | (k,a)::l=>(k,a.mp f)::Sto.mp f l
theorem Fr.get_mp{f:AV->AV}(h0:f .any=.any)(fr:Fr)(d:Nat):(fr.mp f).get d=f (fr.get d):=by
 induction fr with
 | nil=>exact h0.symm
 | cons x l ih=>
  obtain ⟨k,c⟩:=x;simp only[Fr.mp,Fr.get_cons,ih];split <;> rfl
theorem Sto.get_mp(f:AV->AV)(σ:Sto)(o:Nat):(σ.mp f).get o=(σ.get o).map (AO.mp f):=by
 induction σ with
 | nil=>rfl
 | cons x l ih=>
  obtain ⟨k,c⟩:=x;simp only[Sto.mp,Sto.get_cons,ih];split <;> rfl
theorem AO.own_mp(f:AV->AV)(ob:AO)(l:Loc):(ob.mp f).own l=ob.own l:=by cases ob <;> rfl
def AV.on(f:AV->AV):AV->AV
 | .agg l=>.agg (l.map f)
 | c=>f c
theorem yzb{g g' :G}{f:AV->AV}(hf:∀c v,Rel g c v->Rel g' (f c) v){c:AV}{v:Value}(h:Rel g c v):Rel g' (AV.on f c) v:=by
 cases c
 case agg cs=>
  cases h with
  | agg hl hc h=>
   refine .agg (by simp[hl]) hc fun i c hi=>?_
   simp only[jAr,jAi]at hi;obtain ⟨c',h1,rfl⟩:=hi;exact hf _ _ (h i c' h1)
 all_goals exact hf _ _ h
variable {E:Env} {fr:Fr} {σ:Sto} {K:Post}
theorem St.turn{g g' :G}{a:Act}(h:St E g a fr σ){r:Nat}{ob0 ob:AO}(hr:σ.get r=some ob0)(R:List Nat)(hR:r ∉ R)(f:AV->AV)(hf0:f .any=.any)(hf:∀c v,Rel g c v->Rel g' (f c) v)
 (hx:Ext g.w g.u g'.w g'.u) (hl:∀k,k≠r->g'.loc k=g.loc k) (hos:g'.w.os=g.w.os) (htape:g'.w.tape=g.w.tape) (hout:g'.w.output=g.w.output)
 (hb:∀b,b < g.w.heap.size->(∀o ob1,(o=r∨o∈R)->σ.get o=some ob1->¬ob1.own (g.loc o) b)->g'.w.heap[b]? =g.w.heap[b]? /\g'.u b=g.u b) (hwf:Wf g') (hob:RelO g' r ob)
 (hnew:∀b,ob.own (g'.loc r) b->(∃o ob1,(o=r∨o∈R)/\σ.get o=some ob1/\ob1.own (g.loc o) b)∨g.w.heap.size<=b):St E g' a (fr.mp f) (((σ.dels R).mp f).upd r ob):=by
 have hgr:((σ.dels R).mp f).get r=some (ob0.mp f):=by rw[Sto.get_mp,Sto.get_dels,if_neg hR,hr];rfl
 have hget:∀o ob',(((σ.dels R).mp f).upd r ob).get o=some ob' ->(o=r/\ob' =ob)∨(o≠r/\o ∉ R/\∃ob1,σ.get o=some ob1/\ob' =ob1.mp f):=by
  intro o ob' ho;rw[Sto.get_upd hgr]at ho;split at ho
  .rename_i hor;cases ho;exact .inl ⟨hor,rfl⟩
  rename_i hor;rw[Sto.get_mp,Sto.get_dels]at ho;split at ho
  .cases ho
  rename_i hoR;cases ho1:σ.get o with
  | none=>rw[ho1]at ho;cases ho
  | some ob1=>rw[ho1]at ho;cases ho;exact .inr ⟨hor,hoR,ob1,rfl,rfl⟩
 have hdis:∀o ob1 b,o≠r->o ∉ R->σ.get o=some ob1->ob1.own (g.loc o) b->∀o' ob2,(o' =r∨o' ∈R)->σ.get o' =some ob2->¬ob2.own (g.loc o') b:=by
  intro o ob1 b hne hnR ho hbo o' ob2 ho' h2 hc;have:=h.so.apart o o' ob1 ob2 b ho h2 hbo hc;subst this;rcases ho' with rfl | ho'
  .exact hne rfl
  exact hnR ho'
 refine ⟨fun d=>by rw[Fr.get_mp hf0];exact hf _ _ (h.fr d),h.n,h.df.mono hx,⟨?_,?_,?_,?_,hwf⟩⟩
 .intro o ob' ho;rcases hget o ob' ho with ⟨rfl,rfl⟩ | ⟨hne,hnR,ob1,ho1,rfl⟩
  .exact hob
  have hro:=h.so.obj o ob1 ho1;have hbb:∀b,ob1.own (g.loc o) b->g'.w.heap[b]? =g.w.heap[b]? /\g'.u b=g.u b:=fun b hb' =>hb b (hro.block_lt hb') (hdis o ob1 b hne hnR ho1 hb')
  cases ob1
  case cells cs=>
   cases hro with
   | @cells _ b t vs h1 h2 h3 h4 h5 h6=>
    obtain ⟨b1,b2⟩:=hbb b (by rw[h1];rfl);refine .cells ((hl o hne).trans h1) (b1.trans h2) (by simpa using h3) (b2.trans h4) h5 fun i c hi=>?_
    simp only[jAr,jAi]at hi;obtain ⟨c',hc',rfl⟩:=hi;exact hf _ _ (h6 i c' hc')
  case hold c v=>cases hro with
   | hold h1=>exact .hold (hf _ _ h1)
  all_goals exact hro.mono hx (hl o hne) (fun _ hk=>by cases hk) hbb
 .intro o o' ob1 ob2 b h1 h2 h3 h4;rcases hget o ob1 h1 with ⟨rfl,rfl⟩ | ⟨hne,hnR,ob1,ho1,rfl⟩ <;> rcases hget o' ob2 h2 with ⟨rfl,rfl⟩ | ⟨hne',hnR',ob2,ho2,rfl⟩
  .rfl
  .rw[AO.own_mp,hl o' hne']at h4;rcases hnew b h3 with ⟨q,obq,hq,hq1,hq2⟩ | h5
   .exact absurd hq2 (hdis o' ob2 b hne' hnR' ho2 h4 q obq hq hq1)
   have:=(h.so.obj o' _ ho2).block_lt h4;omega
  .rw[AO.own_mp,hl o hne]at h3;rcases hnew b h4 with ⟨q,obq,hq,hq1,hq2⟩ | h5
   .exact absurd hq2 (hdis o ob1 b hne hnR ho1 h3 q obq hq hq1)
   have:=(h.so.obj o _ ho1).block_lt h3;omega
  rw[AO.own_mp,hl o hne]at h3;rw[AO.own_mp,hl o' hne']at h4;exact h.so.apart o o' _ _ b ho1 ho2 h3 h4
 .intro o ob1 b h1 h2;rcases hget o ob1 h1 with ⟨rfl,rfl⟩ | ⟨hne,hnR,ob1,ho1,rfl⟩
  .rcases hnew b h2 with ⟨q,obq,hq,hq1,hq2⟩ | h5
   .exact h.so.mine q obq b hq1 hq2
   exact .inl (jCh h.so.old.ext.size h5)
  rw[AO.own_mp,hl o hne]at h2;exact h.so.mine o _ b ho1 h2
 refine h.so.old.trans ⟨hos,htape,hout,hx,fun b hbl hs=>hb b hbl fun q obq hq hq1 hq2=>?_⟩;rcases h.so.mine q obq b hq1 hq2 with h1 | h1
 .exact hs (.inr h1)
 exact hs (.inl h1)
def ZNa(size2:Nat):Loc->Loc
 | .row b off cap size n=>.nest b off cap size n size2 []
 | l=>l
def AV.nst(r:Nat):AV->AV
 | .hs x off=>bif Nat.beq x r then .ns r else .hs x off
 | c=>bif c.has r then .any else c
theorem V1a{g g' :G}{r:Nat}(hx:Ext g.w g.u g'.w g'.u)(hl:∀k,k≠r->g'.loc k=g.loc k){c:AV}{v:Value}(h:Rel g c v):Rel g' (bif c.has r then .any else c) v:=zmb hx hl h
theorem rel_nst{g g' :G}{r size2:Nat}(hx:Ext g.w g.u g'.w g'.u)(hk:∀k,k≠r->g'.loc k=g.loc k)(hl:g'.loc r=ZNa size2 (g.loc r)){c:AV}{v:Value}(h:Rel g c v):Rel g' (c.nst r) v:=by
 cases c
 case hs x off=>
  cases hb:Nat.beq x r with
  | true=>
   rw[show AV.nst r (.hs x off)=.ns r by show (bif Nat.beq x r then AV.ns r else AV.hs x off)=_;rw[hb];rfl];have:x=r:=jAn hb;subst this;cases h with
   | hsNil a h1=>exact .nsNil a (by rw[hl,h1];rfl)
   | hs h1 h2=>exact .ns (size2:=size2) (subs:=[]) (by rw[hl,h1];rfl) h2
  | false=>
   rw[show AV.nst r (.hs x off)=.hs x off by show (bif Nat.beq x r then AV.ns r else AV.hs x off)=_;rw[hb];rfl];have hne:x≠r:=by rintro rfl;simp at hb
   exact h.mono hx fun k hk' =>hk k (by have:=jAn (show Nat.beq x k=true from hk');subst this;exact hne)
 all_goals exact V1a hx hk h
theorem St.nest{g:G}{a:Act}{r size:Nat}{e:TypeId}{elems:List (List PV)}(h:St E g a fr σ)(hr:σ.get r=some (.row e true size elems))(j:Nat)(e2:TypeId)(size2:Nat):
 St E ⟨g.w,g.u,fun k=>if k=r then ZNa size2 (g.loc r) else g.loc k⟩ a (fr.mp (AV.on (AV.nst r))) (((σ.dels []).mp (AV.on (AV.nst r))).upd r (.nrow e size j e2 size2 0 elems)):=by
 have hl:(⟨g.w,g.u,fun k=>if k=r then ZNa size2 (g.loc r) else g.loc k⟩:G).loc r=ZNa size2 (g.loc r):=if_pos rfl;have hob:=h.so.obj r _ hr;have hbl:(ZNa size2 (g.loc r)).block=(g.loc r).block/\(∀b,b∈(ZNa size2 (g.loc r)).subs->(g.loc r).block=some b):=by
  cases hob with
  | nil h1=>rw[h1];exact ⟨rfl,fun b hb=>by cases hb⟩
  | row h1=>rw[h1];exact ⟨rfl,fun b hb=>by cases hb⟩
 refine h.turn (g' :=⟨g.w,g.u,fun k=>if k=r then ZNa size2 (g.loc r) else g.loc k⟩) hr [] (by simp) _ rfl (fun c v=>yzb fun c v=>rel_nst (g:=g) (g' :=⟨g.w,g.u,fun k=>if k=r then ZNa size2 (g.loc r) else g.loc k⟩) (Ext.refl _ _) (fun k hk=>if_neg hk) hl) (Ext.refl _ _) (fun k hk=>if_neg hk) rfl rfl rfl (fun _ _ _=>⟨rfl,rfl⟩) h.so.wf ?_ (fun b hb=>.inl ⟨r,_,.inl rfl,hr,?_⟩)
 .cases hob with
  | nil h1=>exact .nrowNil (by rw[hl,h1];rfl)
  | row h1 h2 h3 h4 h5 h6 h7 h8 h9=>exact .nrow (subs:=[]) (by rw[hl,h1];rfl) h2 h3 h4 h5 h6 (h8 rfl) rfl (jCp _) (by simp[zWa]) (fun i j' x c hi hj _=>h9 i j' x c hi hj) (fun i s x hi=>by simp at hi)
 rcases hb with hb | hb
 .rw[hl,hbl.1]at hb;exact hb
 rw[hl]at hb;exact hbl.2 b hb
theorem v1a{ops:Array Oper}{ol:List Oper}{size:Nat}{e:TypeId}{elems:List (List PV)}(r j:Nat)(e2:TypeId)(size2:Nat)(hr:σ.get r=some (.row e true size elems))
 (h:AWPL E ops ol (fr.mp (AV.on (AV.nst r))) (((σ.dels []).mp (AV.on (AV.nst r))).upd r (.nrow e size j e2 size2 0 elems)) K):AWPL E ops ol fr σ K:=
 ⟨fun g a hst=>h.go ⟨g.w,g.u,fun k=>if k=r then ZNa size2 (g.loc r) else g.loc k⟩ a (hst.nest hr j e2 size2)⟩
def wYa:Loc->Loc
 | .nest b off cap size n _ _=>.row b off cap size n
 | l=>l
def pubU(size2:Nat)(subs:List (Option (Nat × Nat × Nat × Nat)))(u:Nat->Nat)(k:Nat):Nat:=
 match subs with
 | []=>u k
 | some (b,off,_,n)::l=>if b=k then (off+n) * size2 else pubU size2 l u k
 | none::l=>pubU size2 l u k
def locU:Loc->(Nat->Nat)->Nat->Nat
 | .nest _ _ _ _ _ size2 subs,u=>pubU size2 subs u
 | _,u=>u
theorem qNa(s:Option (Nat × Nat × Nat × Nat))(l:List (Option (Nat × Nat × Nat × Nat))):zWa (s::l)=(match s with | some t=>[t.1] | none=>[])++zWa l:=by
 cases s <;> simp[zWa]
theorem wEa(l l' :List (Option (Nat × Nat × Nat × Nat))):zWa (l++l')=zWa l++zWa l' :=by simp[zWa]
theorem zDb{size2:Nat}{u:Nat->Nat}{k:Nat}:∀{subs:List (Option (Nat × Nat × Nat × Nat))},k ∉ zWa subs->pubU size2 subs u k=u k
 | [],_=>rfl
 | none::l,h=>zDb (subs:=l) (by simpa[qNa]using h)
 | some (b,off,cap,n)::l,h=>by
  simp only[qNa,jCj,jCe,not_or]at h;unfold pubU;rw[if_neg (Ne.symm h.1)];exact zDb h.2
theorem zEb{size2:Nat}{u:Nat->Nat}{b off cap n:Nat}:∀{subs:List (Option (Nat × Nat × Nat × Nat))} {i:Nat},(zWa subs).Nodup->subs[i]? =some (some (b,off,cap,n))->pubU size2 subs u b=(off+n) * size2
 | [],i,_,h=>by simp at h
 | none::l,0,_,h=>by simp at h
 | none::l,i+1,hd,h=>zEb (subs:=l) (by simpa[qNa]using hd) (by simpa using h)
 | some (b',off',cap',n')::l,0,_,h=>by
  simp only[jDs,Option.some.injEq]at h;cases h;unfold pubU;rw[if_pos rfl]
 | some (b',off',cap',n')::l,i+1,hd,h=>by
  simp only[List.getElem?_cons_succ]at h;simp only[qNa,List.singleton_append,jBo]at hd;unfold pubU;rw[if_neg (by rintro rfl;exact hd.1 (jka h))];exact zEb hd.2 h
theorem ZFa.pub{w:World}{u:Nat->Nat}{e:TypeId}{mu:Bool}{size:Nat}{rows:List (List PV)}{s:Nat × Nat × Nat × Nat}{v:Value}(h:ZFa w u e mu size rows s v){u' :Nat->Nat}(hx:Ext0 w u w u')(hu:(s.2.1+s.2.2.2) * size<=u' s.1):RelP w u' (.sl none rows) v:=by
 obtain ⟨vs,h1,h2,h3⟩:=h.blk;have hv:=h.val;rw[<-h.n]at hv;subst hv;have hne:rows≠ []:=by rintro rfl;have:=h.pos;rw[<-h.n]at this;simp at this
 have hle:rows.length<=s.2.2.1:=by rw[h.n];exact h.le
 refine .sl size s.1 (s.2.1 * size) (fun i=>vs.getD (s.2.1 * size+i) undef) (fun x hx=>by cases hx) (fun hx=>by cases hx) hle h.z (fun _=>rfl) (fun _=>⟨?_,kQa h1⟩) (fun i hi=>?_) (fun i j x c hi hj=>?_)
 .rw[<-jAw,h.n];exact hu
 .refine kCa h1 ?_;rw[h2,jAw];have:=jAo size hle;omega
 have:=(h3 i j x c hi hj).mono0 hx;rw[show (s.2.1+i) * size+j=s.2.1 * size+(i * size+j) by rw[jAw];omega]at this;exact this
theorem QXa.pub{w:World}{u:Nat->Nat}{e:TypeId}{size:Nat}{rows:List (List PV)}{s:Option (Nat × Nat × Nat × Nat)}{v:Value}(h:QXa w u e size rows s v){u' :Nat->Nat}(hx:Ext0 w u w u')(hu:∀t,s=some t->(t.2.1+t.2.2.2) * size<=u' t.1):RelP w u' (.sl none rows) v:=by
 cases s with
 | none=>
  obtain ⟨rfl,a,cap,rfl,h0⟩:=h;have:=RelP.sl (w:=w) (u:=u') (nl:=none) (elems:=[]) (a:=a) (cap:=cap) 1 0 0 (fun _=>undef) (fun x hx=>by cases hx) (fun hx=>⟨h0 hx,rfl⟩) (by simp) (by simp) (by simp) (by simp) (fun i hi=>by simp at hi) (fun i j e c hi=>by simp at hi);exact this
 | some t=>exact ZFa.pub h hx (hu t rfl)
def AV.dnst(r:Nat):AV->AV
 | .ns x=>bif Nat.beq x r then .hs r 0 else .ns x
 | .np x i j=>bif Nat.beq x r then .hp x i j else .np x i j
 | c=>bif c.has r then .any else c
theorem rel_dnst{g g' :G}{r:Nat}(hx:Ext g.w g.u g'.w g'.u)(hk:∀k,k≠r->g'.loc k=g.loc k)(hl:g'.loc r=wYa (g.loc r)){c:AV}{v:Value}(h:Rel g c v):Rel g' (c.dnst r) v:=by
 cases c
 case ns x=>
  cases hb:Nat.beq x r with
  | true=>
   rw[show AV.dnst r (.ns x)=.hs r 0 by show (bif Nat.beq x r then AV.hs r 0 else AV.ns x)=_;rw[hb];rfl];have:x=r:=jAn hb;subst this;cases h with
   | nsNil a h1=>exact .hsNil a (by rw[hl,h1];rfl)
   | ns h1 h2=>exact .hs (by rw[hl,h1];rfl) h2
  | false=>
   rw[show AV.dnst r (.ns x)=.ns x by show (bif Nat.beq x r then AV.hs r 0 else AV.ns x)=_;rw[hb];rfl];have hne:x≠r:=by rintro rfl;simp at hb
   exact h.mono hx fun k hk' =>hk k (by have:=jAn (show Nat.beq x k=true from hk');subst this;exact hne)
 case np x i j=>
  cases hb:Nat.beq x r with
  | true=>
   rw[show AV.dnst r (.np x i j)=.hp x i j by show (bif Nat.beq x r then AV.hp x i j else AV.np x i j)=_;rw[hb];rfl];have:x=r:=jAn hb;subst this;cases h with
   | np h1 h2=>exact .hp (by rw[hl,h1];rfl) h2
  | false=>
   rw[show AV.dnst r (.np x i j)=.np x i j by show (bif Nat.beq x r then AV.hp x i j else AV.np x i j)=_;rw[hb];rfl];have hne:x≠r:=by rintro rfl;simp at hb
   exact h.mono hx fun k hk' =>hk k (by have:=jAn (show Nat.beq x k=true from hk');subst this;exact hne)
 all_goals exact V1a hx hk h
theorem St.denest{g:G}{a:Act}{r size j size2 m:Nat}{e e2:TypeId}{elems:List (List PV)}(h:St E g a fr σ)(hr:σ.get r=some (.nrow e size j e2 size2 m elems)):
 St E ⟨g.w,locU (g.loc r) g.u,fun k=>if k=r then wYa (g.loc r) else g.loc k⟩ a (fr.mp (AV.on (AV.dnst r))) (((σ.dels []).mp (AV.on (AV.dnst r))).upd r (.row e true size elems)):=by
 have hl:(⟨g.w,locU (g.loc r) g.u,fun k=>if k=r then wYa (g.loc r) else g.loc k⟩:G).loc r=wYa (g.loc r):=if_pos rfl;have hob:=h.so.obj r _ hr;have hlt:∀b,(AO.nrow e size j e2 size2 m elems).own (g.loc r) b->b < g.w.heap.size:=fun b hb=>hob.block_lt hb
 have hu0:∀k,k ∉ (g.loc r).subs->locU (g.loc r) g.u k=g.u k:=by
  intro k hk;cases hg:g.loc r with
  | nest b off cap size' n size2' subs=>rw[hg]at hk;exact zDb hk
  | _=>rfl
 have hx:Ext g.w g.u g.w (locU (g.loc r) g.u):=⟨jBb _,fun k hk=>by
  by_cases hin:k∈(g.loc r).subs
  .cases hob with
   | nrowNil h1=>rw[h1]at hin;cases hin
   | @nrow _ _ _ _ _ _ _ b off cap vs subs h1 h2 h3 h4 h5 h6 h7 h8 h9 h10 h11 h12=>
    rw[h1]at hin ⊢;obtain ⟨s,hs,hsb⟩:=jDq.1 hin;cases s with
    | none=>cases hsb
    | some s=>
     cases hsb;obtain ⟨i,hi,hii⟩:=jCr hs;have hi' :subs[i]? =some (some s):=by rw[jAh hi,hii]
     have hie:i < elems.length:=by omega
     obtain ⟨rows,_,q2⟩:=h12 i _ _ hi' (jAh hie);show _<=pubU size2 subs g.u s.1;rw[zEb (jBo.1 h10).2 hi',ZFa.hmu q2 rfl];exact jCp _
  rw[hu0 k hin];exact jBb _,fun _ _ _ _=>rfl,fun _ h=>h⟩
 refine h.turn (g' :=⟨g.w,locU (g.loc r) g.u,fun k=>if k=r then wYa (g.loc r) else g.loc k⟩) hr [] (by simp) _ rfl (fun c v=>yzb fun c v=>rel_dnst (g:=g) (g' :=⟨g.w,locU (g.loc r) g.u,fun k=>if k=r then wYa (g.loc r) else g.loc k⟩) hx (fun k hk=>if_neg hk) hl) hx (fun k hk=>if_neg hk) rfl rfl rfl (fun b hb hn=>⟨rfl,hu0 b fun hin=>hn r _ (.inl rfl) hr (.inr hin)⟩) (fun k hk=>?_) ?_ (fun b hb=>.inl ⟨r,_,.inl rfl,hr,?_⟩)
 .show locU (g.loc r) g.u k=0;rw[hu0 k fun hin=>by have:=hlt k (.inr hin);exact absurd hk (by show ¬g.w.heap.size<=k;omega)];exact h.so.wf k hk
 .cases hob with
  | nrowNil h1=>exact .nil (by rw[hl,h1];rfl)
  | @nrow _ _ _ _ _ _ _ b off cap vs subs h1 h2 h3 h4 h5 h6 h7 h8 h9 h10 h11 h12=>
   have hub:locU (g.loc r) g.u b=0:=by rw[hu0 b (by rw[h1];exact (jBo.1 h10).1)];exact h7
   refine .row (by rw[hl,h1];rfl) h2 h3 h4 h5 h6 (by show locU (g.loc r) g.u b<=_;rw[hub];exact jCp _) (fun _=>hub) (fun i j' x c hi hj=>?_);by_cases hc:m<=i∨j' ≠j
   .exact (h11 i j' x c hi hj hc).mono hx
   have him:i < m:=by omega
   have hjj:j' =j:=by omega
   subst hjj;obtain ⟨rows,q1,q2⟩:=h12 i _ x (jAh (by omega:i < subs.length)) hi;rw[hj]at q1;cases q1;refine QXa.pub q2 hx.to0 fun t ht=>?_
   show _<=locU (g.loc r) g.u t.1;rw[h1];have hi' :subs[i]? =some (some (t.1,t.2.1,t.2.2.1,t.2.2.2)):=by rw[jAh (by omega:i < subs.length),ht]
   exact jBy (zEb (jBo.1 h10).2 hi').symm
 show (g.loc r).block=some b∨_;have hb2:(wYa (g.loc r)).block=some b:=by rw[<-hl];exact hb
 clear hb;left;cases hob with
 | nrowNil h1=>rw[h1]at hb2;cases hb2
 | nrow h1=>rw[h1]at hb2 ⊢;exact hb2
theorem qJb{ops:Array Oper}{ol:List Oper}{size j size2 m:Nat}{e e2:TypeId}{elems:List (List PV)}(r:Nat)(hr:σ.get r=some (.nrow e size j e2 size2 m elems))
 (h:AWPL E ops ol (fr.mp (AV.on (AV.dnst r))) (((σ.dels []).mp (AV.on (AV.dnst r))).upd r (.row e true size elems)) K):AWPL E ops ol fr σ K:=
 ⟨fun g a hst=>h.go ⟨g.w,locU (g.loc r) g.u,fun k=>if k=r then wYa (g.loc r) else g.loc k⟩ a (hst.denest hr)⟩
theorem Zka{c:Code}{size j size2 m:Nat}{e e2:TypeId}{elems:List (List PV)}(r:Nat)(hr:σ.get r=some (.nrow e size j e2 size2 m elems))
 (h:AWP E c (fr.mp (AV.on (AV.dnst r))) (((σ.dels []).mp (AV.on (AV.dnst r))).upd r (.row e true size elems)) K):AWP E c fr σ K:=
 ⟨fun g a hst=>h.go ⟨g.w,locU (g.loc r) g.u,fun k=>if k=r then wYa (g.loc r) else g.loc k⟩ a (hst.denest hr)⟩
end
section
open Go.RowKit Go.Lib Go.Proofs.Tryz
def nown(m:Nat)(n:Int):Option Bool:=if n.toNat < m then some true else none
theorem Zla{m:Nat}{n:Int}{r:Bool}(h:nown m n=some r):n.toNat < m:=by
 unfold nown at h;split at h
 .assumption
 cases h
def wib(m:Nat)(n:Int):Option Bool:=if n.toNat=m then some true else none
theorem V2a{m:Nat}{n:Int}{r:Bool}(h:wib m n=some r):n.toNat=m:=by
 unfold wib at h;split at h
 .assumption
 cases h
def JTa(m:Nat)(n:Int):Option Bool:=if m<=n.toNat then some true else none
theorem QKa{m:Nat}{n:Int}{r:Bool}(h:JTa m n=some r):m<=n.toNat:=by
 unfold JTa at h;split at h
 .assumption
 cases h
variable {E:Env} {fr:Fr} {σ:Sto} {K:Post} {P:Program} {ρ:Operand->AV}
variable {dst:Option Tmp} {ty:TypeId} {pos:String} {af:Array Edge} {gu:Option (Nat × Bool)}
section
variable {α β:Type} {F:α->List PV} {G2:β->List PV} {l:List α} {l2:List β} {r size size2 bytes sb ss k j m:Nat} {e e2 t:TypeId} {zero sz:Value} {d:TypeDesc} {x y:Operand}
structure NAt (g:G) (r:Nat) (e:TypeId) (size j:Nat) (e2:TypeId) (size2 m:Nat) (F:α->List PV) (l:List α) (b off cap:Nat) (vs:Array Value) (subs:List (Option (Nat × Nat × Nat × Nat))):Prop where
 loc:g.loc r=.nest b off cap size l.length size2 subs
 heap:g.w.heap[b]? =some (.cells vs e (0,0))
 sz:vs.size=(off+cap) * size
 max:cap<=maxLen
 le:l.length<=cap
 z:∀x∈l,(F x).length=size
 u:g.u b=0
 sl:subs.length=m
 ml:m<=l.length
 nd:(b::zWa subs).Nodup
 cell:∀i j' x c,l[i]? =some x->(F x)[j']? =some c->(m<=i∨j' ≠j)->RelP g.w g.u c (vs.getD ((off+i) * size+j') undef)
 sub:∀i s x,subs[i]? =some s->l[i]? =some x->∃rows,(F x)[j]? =some (.sl none rows)/\QXa g.w g.u e2 size2 rows s (vs.getD ((off+i) * size+j) undef)
theorem NAt.obj{g:G}{b off cap:Nat}{vs:Array Value}{subs:List (Option (Nat × Nat × Nat × Nat))}(h:NAt g r e size j e2 size2 m F l b off cap vs subs):RelO g r (.nrow e size j e2 size2 m (l.map F)):=
 .nrow (by rw[jAz];exact h.loc) h.heap h.sz h.max (by rw[jAz];exact h.le) (fun x hx=>by obtain ⟨y,hy,rfl⟩:=jCb.1 hx;exact h.z y hy) h.u h.sl (by rw[jAz];exact h.ml) h.nd
  (fun i j' x c hi hj hc=>by
   simp only[jAr,jAi]at hi;obtain ⟨y,hy,rfl⟩:=hi;exact h.cell i j' y c hy hj hc)
  (fun i s x hi hx=>by
   simp only[jAr,jAi]at hx;obtain ⟨y,hy,rfl⟩:=hx;exact h.sub i s y hi hy)
theorem yAb{g:G}(hob:RelO g r (.nrow e size j e2 size2 m (l.map F))):(g.loc r=.nilRow/\l=[]/\m=0)∨∃b off cap vs subs,NAt g r e size j e2 size2 m F l b off cap vs subs:=by
 generalize hls:l.map F=ls at hob;cases hob with
 | nrowNil hl=>exact .inl ⟨hl,by simpa using hls,rfl⟩
 | @nrow _ _ _ _ _ _ _ b off cap vs subs h1 h2 h3 h4 h5 h6 h7 h8 h9 h10 h11 h12=>
  subst hls;simp only[jAz]at h1 h5 h9;exact .inr ⟨b,off,cap,vs,subs,h1,h2,h3,h4,h5,fun x hx=>h6 _ (jBl hx),h7,h8,h9,h10,fun i j' x c hi hj hc=>h11 i j' (F x) c (by simp[hi]) hj hc,fun i s x hi hx=>h12 i s (F x) hi (by simp[hx])⟩
theorem Wua{g:G}{i:Nat}{v:α}(hob:RelO g r (.nrow e size j e2 size2 m (l.map F)))(hv:l[i]? =some v):∃b off cap vs subs,NAt g r e size j e2 size2 m F l b off cap vs subs:=by
 rcases yAb hob with ⟨_,rfl,_⟩ | h
 .simp at hv
 exact h
theorem kGb{g:G}{b off cap i j0:Nat}{vs:Array Value}{subs:List (Option (Nat × Nat × Nat × Nat))}{vp:Value}(h:NAt g r e size j e2 size2 m F l b off cap vs subs)(hp:Rel g (.np r i j0) vp):vp=.pointer (some ⟨b,(off+i) * size+j0,none⟩):=by
 cases hp with
 | np hl hi=>rw[h.loc]at hl;cases hl;rfl
theorem NAt.place{g:G}{b off cap i q:Nat}{vs:Array Value}{subs:List (Option (Nat × Nat × Nat × Nat))}(h:NAt g r e size j e2 size2 m F l b off cap vs subs)(hi:i < l.length)(hq:q < size):(off+i) * size+q < vs.size:=by
 rw[h.sz];exact kpb (s:=1) hi h.le hq
theorem qKb{tx:TypeId}(hx:ρ x=.ns r)(hr:σ.get r=some (.nrow e size j e2 size2 m (l.map F)))(ht:P.underlying t=some (.slice tx)):EvQ P ⟨dst,.call ⟨.builtin .len, #[x], #[t]⟩,ty,pos,af,gu⟩ ρ σ (.i l.length):=
 ⟨fun c=>by simp,fun g ρv h hs=>by
  have h1:=h x (by simp[Op.operands,Call.operands]);rw[hx]at h1;refine ⟨.int .i64 l.length,?_,.pv (.b rfl)⟩;generalize hv:ρv x=v at h1;rcases yAb (hs r _ hr) with ⟨hl,rfl,_⟩ | ⟨b,off,cap,vs,subs,hN⟩
  .cases h1 with
   | nsNil a h1=>simp[execOp,resolve,invoke,builtin,Builtin.len_,hv,go_sem,underlying,ht,goInt]
   | ns h1=>rw[hl]at h1;cases h1
  cases h1 with
  | nsNil a h1=>rw[hN.loc]at h1;cases h1
  | ns h1=>
   rw[hN.loc]at h1;cases h1;simp[execOp,resolve,invoke,builtin,Builtin.len_,hv,go_sem,underlying,ht,goInt]⟩
theorem Zba{n:Int}{kk:IntKind}{v:α}(hx:ρ x=.ns r)(hy:ρ y=.pv (.b (.int kk n)))(hr:σ.get r=some (.nrow e size j e2 size2 m (l.map F)))(ht:TyOk P t ss sb sz (.slice e))(he:TyOk P e size bytes zero d)(hv:idx l n=some v):
 EvQ P ⟨dst,.indexAddr t x y,ty,pos,af,gu⟩ ρ σ (.np r n.toNat 0):=
 ⟨fun c=>by simp,fun g ρv h hs=>by
  obtain ⟨h1,h2⟩:=ops2 (o:=⟨dst,.indexAddr t x y,ty,pos,af,gu⟩) (x:=x) (y:=y) rfl h;rw[hx]at h1;rw[hy]at h2;have e2:=kka h2;obtain ⟨hn0,hv⟩:=vga hv;have hlt:n.toNat < l.length:=(jAc.1 hv).1;have hn2:n < l.length:=by omega
  obtain ⟨i,hi,hsz,hby,hzero⟩:=he.info;obtain ⟨b,off,cap,vs,subs,hN⟩:=Wua (hs r _ hr) hv;generalize ev:ρv x=vx at h1;cases h1 with
  | nsNil a h1=>rw[hN.loc]at h1;cases h1
  | ns h1 ha=>
   rw[hN.loc]at h1;cases h1;have ha:=ha (by have:=hN.le;omega);subst ha;refine ⟨.pointer (some ⟨b,(off+n.toNat) * size+0,none⟩),?_,.np hN.loc hlt⟩;simp[execOp,Instr.indexAt,e2,ev,go_sem,asIntOf,underlying,ht.u,sizeOf,typeInfo,hi,hsz,hn0,hn2,qia,jAw]⟩
theorem Yra{i j0 f:Nat}{fs:Array Field}{fl:Field}{fsize fbytes:Nat}{fzero:Value}{fd:TypeDesc}(hx:ρ x=.np r i j0)(ht:P.underlying t=some (.struct fs))(hf:fs[f]? =some fl)(hft:TyOk P fl.type fsize fbytes fzero fd)(hz:Nat.beq fsize 0=false):
 EvQ P ⟨dst,.fieldAddr t x f,ty,pos,af,gu⟩ ρ σ (.np r i (j0+fl.offset)):=
 ⟨fun c=>by simp,fun g ρv h _=>by
  have h1:=h x (by simp[Op.operands]);rw[hx]at h1;generalize hv:ρv x=v at h1;cases h1 with
  | np hl hi=>
   have hz' :fsize≠0:=by rintro rfl;simp at hz
   refine ⟨_,?_,.np (j:=j0+fl.offset) hl hi⟩;simp[execOp,Instr.fieldAt,Instr.sureAddr,hv,go_sem,underlying,ht,hf,fieldPlace,hft.sizeOf,hz',qia,jBt]⟩
theorem WFa{i k0 j0 f:Nat}{fs:Array Field}{fl:Field}{fsize fbytes:Nat}{fzero:Value}{fd:TypeDesc}(hx:ρ x=.hnp r i k0 j0)(ht:P.underlying t=some (.struct fs))(hf:fs[f]? =some fl)(hft:TyOk P fl.type fsize fbytes fzero fd)(hz:Nat.beq fsize 0=false):
 EvQ P ⟨dst,.fieldAddr t x f,ty,pos,af,gu⟩ ρ σ (.hnp r i k0 (j0+fl.offset)):=
 ⟨fun c=>by simp,fun g ρv h _=>by
  have h1:=h x (by simp[Op.operands]);rw[hx]at h1;generalize hv:ρv x=v at h1;cases h1 with
  | hnp hl hs hk=>
   have hz' :fsize≠0:=by rintro rfl;simp at hz
   refine ⟨_,?_,.hnp (j:=j0+fl.offset) hl hs hk⟩;simp[execOp,Instr.fieldAt,Instr.sureAddr,hv,go_sem,underlying,ht,hf,fieldPlace,hft.sizeOf,hz',qia,jBt]⟩
section
variable {t' :TypeId} {size' bytes' :Nat} {zero' :Value} {d' :TypeDesc} {n:Int} {j0:Nat} {v v' :α} {c:PV}
theorem yGa(hx:ρ x=.np r n.toNat j0)(hr:σ.get r=some (.nrow e size j e2 size2 m (l.map F)))(ht:TyOk P t' size' bytes' zero' d')(hd:dAgg d' =false)(hv:idx l n=some v)(hc:(F v)[j0]? =some c)(hj:Nat.beq j0 j=false∨m<=n.toNat):EvQ P ⟨dst,.load t' x,ty,pos,af,gu⟩ ρ σ (.pv c):=
 ⟨fun c=>by simp,fun g ρv h hs=>by
  have h1:=h x (by simp[Op.operands]);rw[hx]at h1;obtain ⟨hn0,hv⟩:=vga hv;obtain ⟨b,off,cap,vs,subs,hN⟩:=Wua (hs r _ hr) hv;have e1:=kGb hN h1;have hjs:j0 < size:=by rw[<-hN.z v (jAd hv)];exact (jAc.1 hc).1
  have hlt:=(jAc.1 hv).1;refine ⟨_,qMa e1 (wKa ht hd (kCa hN.heap (hN.place hlt hjs))),.pv (hN.cell _ _ _ _ hv hc ?_)⟩;rcases hj with hj | hj
  .right;rintro rfl;simp at hj
  exact .inl hj⟩
theorem V3a(hx:ρ x=.np r n.toNat j0)(hr:σ.get r=some (.nrow e size j e2 size2 m (l.map F)))(ht:TyOk P t' size' bytes' zero' d')(hd:dAgg d' =true)(hv:idx l n=some v)(hle:Nat.ble (j0+size') (F v).length=true)(hj:(Nat.ble (j+1) j0 || Nat.ble (j0+size') j)=true∨m<=n.toNat):EvQ P ⟨dst,.load t' x,ty,pos,af,gu⟩ ρ σ (.agg ((((F v).drop j0).take size').map .pv)):=
 ⟨fun c=>by simp,fun g ρv h hs=>by
  have h1:=h x (by simp[Op.operands]);rw[hx]at h1;obtain ⟨hn0,hv⟩:=vga hv;have hle:=jAe hle;obtain ⟨b,off,cap,vs,subs,hN⟩:=Wua (hs r _ hr) hv;have e1:=kGb hN h1;have hlt:=(jAc.1 hv).1;have hFz:=hN.z v (jAd hv);have hj' :∀q,q < size' ->m<=n.toNat∨j0+q≠j:=by
   intro q hq;rcases hj with hj | hj
   .right;simp only[jBv]at hj;rcases hj with hj | hj <;> have:=jAe hj <;> omega
   exact .inl hj
  have hrel:∀q,q < size' ->∃c,(F v)[j0+q]? =some c/\RelP g.w g.u c (vs.getD ((off+n.toNat) * size+(j0+q)) undef):=by
   intro q hq;have h2:j0+q < (F v).length:=by omega
   exact ⟨_,jAh h2,hN.cell _ _ _ _ hv (jAh h2) (hj' q hq)⟩
  refine ⟨_,qMa e1 (wLa ht hd (f:=fun q=>vs.getD ((off+n.toNat) * size+(j0+q)) undef) fun q hq=>?_),.agg (by simp;omega) (fun q hq=>?_) (fun q c hq=>?_)⟩
  .rw[jBt];exact kCa hN.heap (hN.place hlt (by omega))
  .simp only[List.size_toArray,jAz,List.length_range]at hq;rw[vua _ _ _ hq];obtain ⟨c,_,hr⟩:=hrel q hq;exact hr.cellV
  simp only[jAr,jAi]at hq;obtain ⟨c',hc',rfl⟩:=hq;have hq2:q < size' :=by have:=(jAc.1 hc').1;simp at this;omega
  rw[jAt hq2,jBf]at hc';rw[vua _ _ _ hq2];obtain ⟨c,hc,hr⟩:=hrel q hq2;rw[hc']at hc;cases hc;exact .pv hr⟩
theorem sub_val{g:G}{b off cap i:Nat}{vs:Array Value}{subs:List (Option (Nat × Nat × Nat × Nat))}{v:α}(hN:NAt g r e size j e2 size2 m F l b off cap vs subs)(hv:l[i]? =some v)(hm:i < m):Rel g (.hn r i) (vs.getD ((off+i) * size+j) undef):=by
 obtain ⟨s,hs⟩:∃s,subs[i]? =some s:=⟨_,jAh (by have:=hN.sl;omega)⟩;obtain ⟨rows,q1,q2⟩:=hN.sub i s v hs hv;cases s with
 | none=>
  obtain ⟨_,a,cp,hval,_⟩:=q2;rw[hval];exact .hnNil a cp hN.loc hs
 | some t=>
  rw[ZFa.val q2];exact .hn (b2:=t.1) (off2:=t.2.1) (cap2:=t.2.2.1) (n2:=t.2.2.2) hN.loc hs
theorem yBb{w:World}{u:Nat->Nat}{e:TypeId}{size:Nat}{rows:List (List PV)}{s:Option (Nat × Nat × Nat × Nat)}{v:Value}(h:QXa w u e size rows s v):cellV v=true:=by
 cases s with
 | none=>obtain ⟨_,a,cap,rfl,_⟩:=h;rfl
 | some t=>rw[ZFa.val h];rfl
theorem K9a(hx:ρ x=.np r n.toNat j0)(hr:σ.get r=some (.nrow e size j e2 size2 m (l.map F)))(ht:TyOk P t' size' bytes' zero' d')(hd:dAgg d' =false)(hv:idx l n=some v)(hj:Nat.beq j0 j=true)(hm:n.toNat < m):EvQ P ⟨dst,.load t' x,ty,pos,af,gu⟩ ρ σ (.hn r n.toNat):=
 ⟨fun c=>by simp,fun g ρv h hs=>by
  have h1:=h x (by simp[Op.operands]);rw[hx]at h1;obtain rfl:=jAn hj;obtain ⟨hn0,hv⟩:=vga hv;obtain ⟨b,off,cap,vs,subs,hN⟩:=Wua (hs r _ hr) hv;have e1:=kGb hN h1;have hlt:=(jAc.1 hv).1;obtain ⟨s,hss⟩:∃s,subs[n.toNat]? =some s:=⟨_,jAh (by have:=hN.sl;omega)⟩;obtain ⟨rows,q1,q2⟩:=hN.sub _ s v hss hv;have hjs:j0 < size:=by rw[<-hN.z v (jAd hv)];exact (jAc.1 q1).1
  exact ⟨_,qMa e1 (wKa ht hd (kCa hN.heap (hN.place hlt hjs))),sub_val hN hv hm⟩⟩
theorem sub_row{g:G}{b off cap i:Nat}{vs:Array Value}{subs:List (Option (Nat × Nat × Nat × Nat))}{v:α}{vx:Value}(hN:NAt g r e size j e2 size2 m F l b off cap vs subs)(hv:l[i]? =some v)(hF:(F v)[j]? =some (.sl none (l2.map G2)))(hx:Rel g (.hn r i) vx):
 (l2=[]/\∃a cp,vx=.slice a 0 cp)∨∃s,subs[i]? =some (some s)/\ZFa g.w g.u e2 true size2 (l2.map G2) s vx:=by
 cases hx with
 | hnNil a cp hl hs=>
  rw[hN.loc]at hl;cases hl;obtain ⟨rows,q1,q2⟩:=hN.sub i _ v hs hv;rw[hF]at q1;cases q1;exact .inl ⟨by simpa using q2.1,a,cp,rfl⟩
 | hn hl hs=>
  rw[hN.loc]at hl;cases hl;obtain ⟨rows,q1,q2⟩:=hN.sub i _ v hs hv;rw[hF]at q1;cases q1;refine .inr ⟨_,hs,?_⟩;have h:=ZFa.val q2;rw[h]at q2;exact q2
theorem Qaa{n2:Int}{kk:IntKind}{w2:β}(hx:ρ x=.hn r n.toNat)(hy:ρ y=.pv (.b (.int kk n2)))(hr:σ.get r=some (.nrow e size j e2 size2 m (l.map F)))(ht:TyOk P t ss sb sz (.slice e2))(he:TyOk P e2 size2 bytes zero d)(hv:idx l n=some v)(hF:(F v)[j]? =some (.sl none (l2.map G2)))(hv2:idx l2 n2=some w2):
 EvQ P ⟨dst,.indexAddr t x y,ty,pos,af,gu⟩ ρ σ (.hnp r n.toNat n2.toNat 0):=
 ⟨fun c=>by simp,fun g ρv h hs=>by
  obtain ⟨h1,h2⟩:=ops2 (o:=⟨dst,.indexAddr t x y,ty,pos,af,gu⟩) (x:=x) (y:=y) rfl h;rw[hx]at h1;rw[hy]at h2;have ey:=kka h2;obtain ⟨hn0,hv⟩:=vga hv;obtain ⟨hn20,hv2⟩:=vga hv2;have hlt:n2.toNat < l2.length:=(jAc.1 hv2).1;have hn2:n2 < l2.length:=by omega
  obtain ⟨i,hi,hsz,hby,hzero⟩:=he.info;obtain ⟨b,off,cap,vs,subs,hN⟩:=Wua (hs r _ hr) hv;rcases sub_row hN hv hF h1 with ⟨rfl,a,cp,e1⟩ | ⟨s,hss,hR⟩
  .simp at hlt
  have e1:=hR.val;have en:=hR.n;rw[jAz]at en;refine ⟨.pointer (some ⟨s.1,(s.2.1+n2.toNat) * size2+0,none⟩),?_,.hnp (b2:=s.1) (off2:=s.2.1) (cap2:=s.2.2.1) (n2:=s.2.2.2) hN.loc hss (by omega)⟩;rw[<-en]at e1;simp[execOp,Instr.indexAt,ey,e1,go_sem,asIntOf,underlying,ht.u,sizeOf,typeInfo,hi,hsz,hn20,hn2,qia,jAw]⟩
theorem hnp_val{g:G}{b off cap i k0 j2:Nat}{vs:Array Value}{subs:List (Option (Nat × Nat × Nat × Nat))}{v:α}{vp:Value}(hN:NAt g r e size j e2 size2 m F l b off cap vs subs)(hv:l[i]? =some v)(hF:(F v)[j]? =some (.sl none (l2.map G2)))(hp:Rel g (.hnp r i k0 j2) vp):
 ∃s val,subs[i]? =some (some s)/\ZFa g.w g.u e2 true size2 (l2.map G2) s val/\vs.getD ((off+i) * size+j) undef=val/\k0 < l2.length/\vp=.pointer (some ⟨s.1,(s.2.1+k0) * size2+j2,none⟩):=by
 cases hp with
 | hnp hl hs hk=>
  rw[hN.loc]at hl;cases hl;obtain ⟨rows,q1,q2⟩:=hN.sub i _ v hs hv;rw[hF]at q1;cases q1;have:=q2.n;rw[jAz]at this;exact ⟨_,_,hs,q2,rfl,by rw[this];exact hk,rfl⟩
theorem ZFa.lt{w:World}{u:Nat->Nat}{mu:Bool}{s:Nat × Nat × Nat × Nat}{vx:Value}{i q:Nat}{vs:Array Value}(h:ZFa w u e mu size (l.map F) s vx)(hsz:vs.size=(s.2.1+s.2.2.1) * size)(hi:i < l.length)(hq:q < size):(s.2.1+i) * size+q < vs.size:=by
 rw[hsz];have h1:=h.n;have h2:=h.le;rw[jAz]at h1;exact kpb (s:=1) (n:=l.length) hi (by omega) hq
end
end
end
section
open Go.RowKit Go.Lib Go.Proofs.Tryz
structure Wrote (w w' :World) (b p:Nat) (t:TypeId) (cur new:Array Value) (cl:List Value):Prop where
 os:w'.os=w.os
 tape:w'.tape=w.tape
 output:w'.output=w.output
 size:w'.heap.size=w.heap.size
 other:∀k,k≠b->w'.heap[k]? =w.heap[k]?
 here:w'.heap[b]? =some (.cells new t (0,0))
 sz:new.size=cur.size
 inn:∀q,q < cl.length->new.getD (p+q) undef=cl.getD q undef
 out:∀q,(q < p∨p+cl.length<=q)->new.getD q undef=cur.getD q undef
theorem kHb{w:World}{b p:Nat}{t:TypeId}{cur:Array Value}{cl:List Value}(h:w.heap[b]? =some (.cells cur t (0,0)))(hf:p+cl.length<=cur.size):Wrote w (w.setRow b (cur.toList.take p++cl++cur.toList.drop (p+cl.length)).toArray) b p t cur (cur.toList.take p++cl++cur.toList.drop (p+cl.length)).toArray cl where
 os:=rfl
 tape:=rfl
 output:=rfl
 size:=by simp[World.setRow]
 other k hk:=by simp only[World.setRow,jCn];rw[if_neg (Ne.symm hk)]
 here:=setRow_heap w b cur _ t _ h
 sz:=by simp;omega
 inn q hq:=by
  rw[jAg,jBu,jAv,jAj (by simp;omega),jAk (by simp;omega),jAm]
  congr 2
  simp;omega
 out q hq:=by
  rw[jAg,jBu,jAv,jAg];rcases hq with hq | hq
  .rw[jAk (by simp;omega),jAt hq,jBw]
  rw[jAj (by simp;omega),jAj (by simp;omega),jBf,jBw]
  congr 2
  simp;omega
theorem Wrote.ext{w w' :World}{b p:Nat}{t:TypeId}{cur new:Array Value}{cl:List Value}{u:Nat->Nat}(h:Wrote w w' b p t cur new cl)(hb:w.heap[b]? =some (.cells cur t (0,0)))(hu:u b=0):Ext w u w' u:=⟨jBy h.size.symm,fun _ _=>jBb _,fun k i hk hi=>by
 by_cases hkb:k=b
 .subst hkb;omega
 simp only[World.cell?];rw[h.other k hkb],fun r hr=>(h.other r (by rintro rfl;rw[hb]at hr;cases hr)).trans hr⟩
theorem sub_ne:∀{subs:List (Option (Nat × Nat × Nat × Nat))} {i i' :Nat} {s s' :Nat × Nat × Nat × Nat},(zWa subs).Nodup->subs[i]? =some (some s)->subs[i']? =some (some s')->i≠i' ->s.1≠s'.1
 | [],i,_,_,_,_,h,_,_=>by simp at h
 | x::l,0,0,_,_,_,_,_,hne=>absurd rfl hne
 | x::l,0,i' +1,s,s',hd,h1,h2,_=>by
  simp only[jDs,Option.some.injEq]at h1;subst h1;simp only[qNa,List.singleton_append,jBo]at hd;rintro he;exact hd.1 (he▸jka (by simpa using h2))
 | x::l,i+1,0,s,s',hd,h1,h2,_=>by
  simp only[jDs,Option.some.injEq]at h2;subst h2;simp only[qNa,List.singleton_append,jBo]at hd;rintro he;exact hd.1 (he▸jka (by simpa using h1))
 | x::l,i+1,i' +1,s,s',hd,h1,h2,hne=>by
  refine sub_ne (subs:=l) ?_ (by simpa using h1) (by simpa using h2) (by omega);rw[qNa]at hd;exact (List.nodup_append.1 hd).2.1
theorem Wva{vs:Array Value}(h:∀i,i < vs.size->cellV (vs.getD i undef)=true):∀u∈vs.toList,u.oneCell' =true:=by
 intro u hu;obtain ⟨i,hi,rfl⟩:=jCr hu;have h0:=h i (by simpa using hi);rw[show vs.getD i undef=vs.toList[i] by simp[Array.getD,show i < vs.size by simpa using hi]]at h0;cases hcase:vs.toList[i] <;> rw[hcase]at h0 <;> first | rfl | simp[cellV]at h0
theorem jva{P:Program}{ρv:Operand->Value}{w:World}{b p:Nat}{t t' :TypeId}{x y:Operand}{cur:Array Value}{size' bytes' :Nat}{zero' :Value}{d' :TypeDesc}{ty:TypeId}{pos:String}{af:Array Edge}{gu:Option (Nat × Bool)}
 (hx:ρv x=.pointer (some ⟨b,p,none⟩)) (ht:TyOk P t' size' bytes' zero' d') (hn:(ρv y).cells.size=size') (hc:∀i,i < (ρv y).cells.size->cellV ((ρv y).cells.getD i undef)=true) (hb:w.heap[b]? =some (.cells cur t (0,0))) (hf:p+size' <=cur.size):
 ∃w' new,(execOp ρv ⟨none,.store t' x y,ty,pos,af,gu⟩).run P w=.ok .skip w' /\Wrote w w' b p t cur new (ρv y).cells.toList:=by
 have hs:=run_storeCells_at (P:=P) b p t (ρv y).cells.toList 0 cur w hb (by simp;omega) (Wva hc);simp only[jCl]at hs;refine ⟨_,_,?_,kHb hb (by simp;omega)⟩;show Sem.run P (do Instr.storeAt t' (ρv x) (ρv y);pure Next.skip) w=_;rw[hx];simp only[Instr.storeAt,Instr.sureAddr,storeVar,jAu,jBc,jAp,ht.sizeOf];rw[if_neg (by rw[hn];simp)];simp only[jAu,jBc,jAp,hs]
variable {E:Env} {fr:Fr} {σ:Sto} {K:Post} {P:Program} {ρ:Operand->AV}
variable {dst:Option Tmp} {ty:TypeId} {pos:String} {af:Array Edge} {gu:Option (Nat × Bool)}
section
variable {α β:Type} {F:α->List PV} {G2:β->List PV} {l:List α} {l2:List β} {r r2 size size2 bytes sb ss k j m:Nat} {e e2 t:TypeId} {zero sz:Value} {d:TypeDesc} {x y:Operand}
variable {t' :TypeId} {size' bytes' :Nat} {zero' :Value} {d' :TypeDesc} {n:Int} {j0:Nat} {v v' :α} {c:PV}
theorem zFb{off i i' q j0 len size:Nat}(hq:q < size)(hj:j0+len<=size)(h:i' ≠i∨q < j0∨j0+len<=q):(off+i') * size+q < (off+i) * size+j0∨(off+i) * size+j0+len<=(off+i') * size+q:=by
 by_cases hi:i' =i
 .subst hi;omega
 rcases jBh i' i with h2 | h2
 .have:(off+i' +1) * size<=(off+i) * size:=jAo _ (by omega);rw[jAw (off+i')]at this;omega
 have:(off+i+1) * size<=(off+i') * size:=jAo _ (by omega);rw[jAw (off+i)]at this;omega
theorem yHa{pcs:List PV}(hx:fr.ev x=.np r n.toNat j0)(hr:σ.get r=some (.nrow e size j e2 size2 m (l.map F)))(hy:(fr.ev y).weak.cells=some (pcs.map .pv))(ht:TyOk E.P t' size' bytes' zero' d')(hz:Nat.beq pcs.length size' =true)
 (hv:idx l n=some v) (hle:Nat.ble (j0+pcs.length) (F v).length=true) (hj:(Nat.ble (j+1) j0 || Nat.ble (j0+pcs.length) j)=true) (hF' :F v' =(F v).take j0++pcs++(F v).drop (j0+pcs.length)):
 OpTo E ⟨none,.store t' x y,ty,pos,af,gu⟩ fr σ fr (σ.upd r (.nrow e size j e2 size2 m ((l.set n.toNat v').map F))):=
 ⟨fun g a K Q hst hK=>by
  have hle:=jAe hle;have hz:=jAn hz;have hj:j < j0∨j0+pcs.length<=j:=by
   simp only[jBv]at hj;rcases hj with hj | hj <;> have:=jAe hj <;> omega
  refine ⟨fun _ _=>trivial,?_⟩;rw[jBe _ _ _ (fun c=>by simp)];have h1:=hst.ev x;rw[hx]at h1;obtain ⟨hn0,hv⟩:=vga hv;obtain ⟨b,off,cap,cur,subs,hN⟩:=Wua (hst.so.obj r _ hr) hv;have e1:=kGb hN h1;obtain ⟨v1,v2,v3⟩:=jma (vPa (hst.ev y)) hy;rw[jAz]at v1;have hlt:=(jAc.1 hv).1;have hFz:=hN.z v (jAd hv);have hfit:(off+n.toNat) * size+j0+pcs.length<=cur.size:=by rw[hN.sz];exact kpb hlt hN.le (by omega)
  obtain ⟨w',new,hrun,hW⟩:=jva (P:=E.P) (w:=g.w) (ty:=ty) (pos:=pos) (af:=af) (gu:=gu) e1 ht (by omega) v2 hN.heap (by omega);rw[hrun,Oper.uponIn_skip];have hcl:(a.eval y).cells.toList.length=pcs.length:=by simpa using v1
  have hxx:=hW.ext (u:=g.u) hN.heap hN.u;have hFv' :(F v').length=size:=by rw[hF'];simp;omega
  have hjl:((F v).take j0).length=j0:=by simp;omega
  have hF1:∀q,(q < j0∨j0+pcs.length<=q)->(F v')[q]? =(F v)[q]? :=by
   intro q hq;rw[hF',jAv];rcases hq with hq | hq
   .rw[jAk (by omega),jAt hq]
   rw[jAj (by omega),hjl,jAj (by omega),jBf]
   congr 1;omega
  have hF2:∀q,q < pcs.length->(F v')[j0+q]? =pcs[q]? :=by
   intro q hq;rw[hF',jAv,jAj (by omega),hjl,jAk (by omega)]
   congr 1;omega
  have hkeep:∀i' q,q < size->(i' ≠n.toNat∨q < j0∨j0+pcs.length<=q)->new.getD ((off+i') * size+q) undef=cur.getD ((off+i') * size+q) undef:=fun i' q hq h=>hW.out _ (by rw[hcl];exact zFb hq (by omega) h)
  have hN' :NAt ⟨w',g.u,g.loc⟩ r e size j e2 size2 m F (l.set n.toNat v') b off cap new subs:=by
   refine ⟨by rw[jCk];exact hN.loc,hW.here,hW.sz.trans hN.sz,hN.max,by rw[jCk];exact hN.le,fun z hz' =>?_,hN.u,hN.sl,by rw[jCk];exact hN.ml,hN.nd,fun i' j' z c hi' hj' hc=>?_,fun i' s z hs hz' =>?_⟩
   .rcases jBn hz' with h2 | rfl
    .exact hN.z z h2
    exact hFv'
   .by_cases hin:i' =n.toNat
    .subst hin;rw[jBp hlt]at hi';cases hi';have hjs:j' < size:=by rw[<-hFv'];exact (jAc.1 hj').1
     by_cases hr' :j' < j0∨j0+pcs.length<=j'
     .rw[hkeep _ j' hjs (.inr hr')];rw[hF1 j' hr']at hj';exact (hN.cell _ j' v c hv hj' hc).mono hxx
     have hq:j' - j0 < pcs.length:=by omega
     have:=hF2 (j' - j0) hq;rw[show j0+(j' - j0)=j' by omega,hj']at this;have h5:=v3 (j' - j0) (.pv c) (by simp[<-this]);cases h5 with
     | pv h5=>
      have h6:=hW.inn (j' - j0) (by omega);rw[show (off+n.toNat) * size+j0+(j' - j0)=(off+n.toNat) * size+j' by omega]at h6;rw[h6];have h7:=h5.mono hxx;simpa using h7
    rw[jBq (by omega)]at hi';have hjs:j' < size:=by rw[<-hN.z z (jAd hi')];exact (jAc.1 hj').1
    rw[hkeep i' j' hjs (.inl hin)];exact (hN.cell i' j' z c hi' hj' hc).mono hxx
   obtain ⟨z0,hz0,hFz0⟩:∃z0,l[i']? =some z0/\(F z)[j]? =(F z0)[j]? :=by
    by_cases hin:i' =n.toNat
    .subst hin;rw[jBp hlt]at hz';cases hz';exact ⟨v,hv,hF1 j hj⟩
    rw[jBq (by omega)]at hz';exact ⟨z,hz',rfl⟩
   obtain ⟨rows,q1,q2⟩:=hN.sub i' s z0 hs hz0;have hjs:j < size:=by rw[<-hN.z z0 (jAd hz0)];exact (jAc.1 q1).1
   refine ⟨rows,hFz0.trans q1,?_⟩;rw[hkeep i' j hjs (.inr hj)];refine q2.mono hxx.to0 fun t ht=>⟨hW.other t.1 ?_,rfl⟩
   rintro rfl;subst ht;exact (jBo.1 hN.nd).1 (jka hs)
  exact hK ⟨w',g.u,g.loc⟩ _ (St.put_none (hst.objset hr hxx rfl hW.os hW.tape hW.output (fun k hk hne=>⟨hW.other k (by rintro rfl;exact hne (by rw[hN.loc];exact .inl rfl)),rfl⟩) (j8a hst.so.wf (jBy hW.size.symm) _) hN'.obj (fun _=>rfl)))⟩
theorem wia{pcs:List PV}{n2:Int}{w2 w2' :β}(hx:fr.ev x=.hnp r n.toNat n2.toNat j0)(hr:σ.get r=some (.nrow e size j e2 size2 m (l.map F)))(hy:(fr.ev y).weak.cells=some (pcs.map .pv))(ht:TyOk E.P t' size' bytes' zero' d')(hz:Nat.beq pcs.length size' =true)
 (hv:idx l n=some v) (hF:(F v)[j]? =some (.sl none (l2.map G2))) (hv2:idx l2 n2=some w2) (hle:Nat.ble (j0+pcs.length) (G2 w2).length=true) (hG' :G2 w2' =(G2 w2).take j0++pcs++(G2 w2).drop (j0+pcs.length)) (hF' :F v' =(F v).set j (.sl none ((l2.set n2.toNat w2').map G2))):
 OpTo E ⟨none,.store t' x y,ty,pos,af,gu⟩ fr σ fr (σ.upd r (.nrow e size j e2 size2 m ((l.set n.toNat v').map F))):=
 ⟨fun g a K Q hst hK=>by
  have hle:=jAe hle;have hz:=jAn hz;refine ⟨fun _ _=>trivial,?_⟩;rw[jBe _ _ _ (fun c=>by simp)];have h1:=hst.ev x;rw[hx]at h1;obtain ⟨hn0,hv⟩:=vga hv;obtain ⟨hn20,hv2⟩:=vga hv2;obtain ⟨b,off,cap,cur,subs,hN⟩:=Wua (hst.so.obj r _ hr) hv;obtain ⟨s,val,hss,hR,hval,hk,e1⟩:=hnp_val hN hv hF h1;obtain ⟨vs2,b1,b2,b3⟩:=hR.blk;obtain ⟨v1,v2,v3⟩:=jma (vPa (hst.ev y)) hy;rw[jAz]at v1;have hlt:=(jAc.1 hv).1;have hFz:=hN.z v (jAd hv);have hGz:=hR.z _ (jBl (jAd hv2));have hu2:=hR.hmu rfl;have hRn:=hR.n;rw[jAz]at hRn;have hfit:(s.2.1+n2.toNat) * size2+j0+pcs.length<=vs2.size:=by rw[b2];exact kpb (n:=l2.length) hk (by have:=hR.le;omega) (by omega)
  obtain ⟨w',new,hrun,hW⟩:=jva (P:=E.P) (w:=g.w) (ty:=ty) (pos:=pos) (af:=af) (gu:=gu) e1 ht (by omega) v2 b1 (by omega);rw[hrun,Oper.uponIn_skip];have hcl:(a.eval y).cells.toList.length=pcs.length:=by simpa using v1
  have hxx:=hW.ext (u:=g.u) b1 hu2;have hG2:(G2 w2').length=size2:=by rw[hG'];simp;omega
  have hjl:((G2 w2).take j0).length=j0:=by simp;omega
  have hsb:s.1≠b:=by rintro rfl;exact (jBo.1 hN.nd).1 (jka hss)
  have hF1:∀q,q≠j->(F v')[q]? =(F v)[q]? :=fun q hq=>by rw[hF',jBq (Ne.symm hq)]
  have hjs:j < (F v).length:=(jAc.1 hF).1;have hFj:(F v')[j]? =some (.sl none ((l2.set n2.toNat w2').map G2)):=by rw[hF',jBp hjs]
  have hFv' :(F v').length=size:=by rw[hF',jCk,hFz]
  have hR' :ZFa w' g.u e2 true size2 ((l2.set n2.toNat w2').map G2) s val:=by
   refine ⟨hR.val,by simp[hRn],hR.pos,⟨new,hW.here,hW.sz.trans b2,fun i' j' z c hi' hj' =>?_⟩,hR.cap,hR.le,fun z hz' =>?_,hR.hu,hR.hmu⟩
   .simp only[jAr,jAi]at hi';obtain ⟨z,hi',rfl⟩:=hi';by_cases hin:i' =n2.toNat
    .subst hin;rw[jBp hk]at hi';cases hi';have hjs' :j' < size2:=by rw[<-hG2];exact (jAc.1 hj').1
     by_cases hr' :j' < j0∨j0+pcs.length<=j'
     .rw[hW.out _ (by rw[hcl];exact zFb hjs' (by omega) (.inr hr'))];have hj2:(G2 w2)[j']? =some c:=by
       rw[<-hj',hG',jAv];rcases hr' with hq | hq
       .rw[jAk (by omega),jAt hq]
       rw[jAj (by omega),hjl,jAj (by omega),jBf]
       congr 1;omega
      exact (b3 _ j' _ c (by simp[hv2]) hj2).mono hxx
     have hq:j' - j0 < pcs.length:=by omega
     have hj2:pcs[j' - j0]? =some c:=by
      rw[<-hj',hG',jAv,jAj (by omega),hjl,jAk (by omega)]
     have h5:=v3 (j' - j0) (.pv c) (by simp[hj2]);cases h5 with
     | pv h5=>
      have h6:=hW.inn (j' - j0) (by omega);rw[show (s.2.1+n2.toNat) * size2+j0+(j' - j0)=(s.2.1+n2.toNat) * size2+j' by omega]at h6;rw[h6];have h7:=h5.mono hxx;simpa using h7
    rw[jBq (by omega)]at hi';have hzz:=hR.z _ (jBl (jAd hi'));have hjs' :j' < size2:=by rw[<-hzz];exact (jAc.1 hj').1
    rw[hW.out _ (by rw[hcl];exact zFb hjs' (by omega) (.inl hin))];exact (b3 i' j' _ c (by simp[hi']) hj').mono hxx
   obtain ⟨z0,hz0,rfl⟩:=jCb.1 hz';rcases jBn hz0 with h2 | rfl
   .exact hR.z _ (jBl h2)
   exact hG2
  have hN' :NAt ⟨w',g.u,g.loc⟩ r e size j e2 size2 m F (l.set n.toNat v') b off cap cur subs:=by
   refine ⟨by rw[jCk];exact hN.loc,(hW.other b (Ne.symm hsb)).trans hN.heap,hN.sz,hN.max,by rw[jCk];exact hN.le,fun z hz' =>?_,hN.u,hN.sl,by rw[jCk];exact hN.ml,hN.nd,fun i' j' z c hi' hj' hc=>?_,fun i' s' z hs hz' =>?_⟩
   .rcases jBn hz' with h2 | rfl
    .exact hN.z z h2
    exact hFv'
   .by_cases hin:i' =n.toNat
    .subst hin;rw[jBp hlt]at hi';cases hi';have him:n.toNat < m:=by have:=(jAc.1 hss).1;have:=hN.sl;omega
     have hjj:j' ≠j:=by
      rcases hc with hc | hc; · omega
      exact hc
     rw[hF1 j' hjj]at hj';exact (hN.cell _ j' v c hv hj' hc).mono hxx
    rw[jBq (by omega)]at hi';exact (hN.cell i' j' z c hi' hj' hc).mono hxx
   by_cases hin:i' =n.toNat
   .subst hin;rw[jBp hlt]at hz';cases hz';rw[hss]at hs;cases hs;exact ⟨_,hFj,by rw[hval];exact hR'⟩
   rw[jBq (by omega)]at hz';obtain ⟨rows,q1,q2⟩:=hN.sub i' s' z hs hz';refine ⟨rows,q1,q2.mono hxx.to0 fun t ht=>⟨hW.other t.1 ?_,rfl⟩⟩;subst ht;exact sub_ne (jBo.1 hN.nd).2 hs hss hin
  exact hK ⟨w',g.u,g.loc⟩ _ (St.put_none (hst.objset hr hxx rfl hW.os hW.tape hW.output (fun k hk hne=>⟨hW.other k (by rintro rfl;exact hne (by rw[hN.loc];exact .inr (jka hss))),rfl⟩) (j8a hst.so.wf (jBy hW.size.symm) _) hN'.obj (fun _=>rfl)))⟩
end
end
section
open Go.RowKit Go.Lib Go.Proofs.Tryz
def Jha(l l' :Loc):Prop:=l' =l∨(∃b off cap size n size2 subs more,l=.nest b off cap size n size2 subs/\l' =.nest b off cap size n size2 (subs++more))∨∃b subs subs',l=.mapr b subs/\l' =.mapr b subs'
theorem Jha.plain{l l' :Loc}(h:Jha l l')(hn:∀b off cap size n size2 subs,l≠ .nest b off cap size n size2 subs/\l≠ .mapr b subs):l' =l:=by
 rcases h with h | ⟨b,off,cap,size,n,size2,subs,more,h,_⟩ | ⟨b,subs,subs',h,_⟩
 .exact h
 .exact absurd h (hn _ _ _ _ _ _ _).1
 exact absurd h (hn b 0 0 0 0 0 subs).2
theorem Jha.mapr{l' :Loc}{b:Nat}{subs:List (Option (Nat × Nat × Nat × Nat))}(h:Jha (.mapr b subs) l'):∃subs',l' =.mapr b subs' :=by
 rcases h with h | ⟨b',off',cap',size',n',size2',subs',more,h,h2⟩ | ⟨b',s1,s2,h,h2⟩
 .exact ⟨_,h⟩
 .cases h
 cases h;exact ⟨_,h2⟩
theorem Jha.nest{l' :Loc}{b off cap size n size2:Nat}{subs:List (Option (Nat × Nat × Nat × Nat))}(h:Jha (.nest b off cap size n size2 subs) l'):∃more,l' =.nest b off cap size n size2 (subs++more):=by
 rcases h with h | ⟨b',off',cap',size',n',size2',subs',more,h,h2⟩ | ⟨b',s1,s2,h,h2⟩
 .exact ⟨[],by rw[jCw];exact h⟩
 .cases h;exact ⟨more,h2⟩
 cases h
theorem zGb{α:Type}{l more:List α}{i:Nat}{x:α}(h:l[i]? =some x):(l++more)[i]? =some x:=by
 rw[jAk (jAc.1 h).1];exact h
theorem Rel.more{g g' :G}(hx:Ext g.w g.u g'.w g'.u){c:AV}{v:Value}(h:Rel g c v):(∀o,c.has o=true->Jha (g.loc o) (g'.loc o))->Rel g' c v:=by
 have hx0:=hx.to0;induction h with
 | any v=>exact fun _=>.any v
 | pv h=>exact fun _=>.pv (h.mono0 hx0)
 | @agg cs vs hl hc h ih=>exact fun hh=>.agg hl hc (fun i c hi=>ih i c hi fun o ho=>hh o (by unfold AV.has;exact AV.hasL_of hi ho))
 | @tup cs vs hl h ih=>exact fun hh=>.tup hl (fun i c hi=>ih i c hi fun o ho=>hh o (by unfold AV.has;exact AV.hasL_of hi ho))
 | @ptr o off b hl=>exact fun hh=>.ptr (by have:=hh o (by simp[AV.has]);rw[hl]at this;exact this.plain (by intros;simp))
 | @ep cells b off val hu hb hcell h=>exact fun hh=>Rel.mono hx (.ep val hu hb hcell h) (fun o ho=>by cases ho)
 | @hsNil r a hl=>exact fun hh=>.hsNil a (by have:=hh r (by simp[AV.has]);rw[hl]at this;exact this.plain (by intros;simp))
 | @hs r b off cap size n a hl ha=>exact fun hh=>.hs (by have:=hh r (by simp[AV.has]);rw[hl]at this;exact this.plain (by intros;simp)) ha
 | @hp r idx j b off cap size n hl hi=>exact fun hh=>.hp (by have:=hh r (by simp[AV.has]);rw[hl]at this;exact this.plain (by intros;simp)) hi
 | @fn f first captured fv cv h1 h2 hf hc ihf ihc=>
  exact fun hh=>.fn h1 h2 (fun i c hi=>ihf i c hi fun o ho=>hh o (by simp[AV.has,AV.hasL_of hi ho])) (fun i c hi=>ihc i c hi fun o ho=>hh o (by simp[AV.has,AV.hasL_of hi ho]))
 | @mp o b hl=>exact fun hh=>.mp (by have:=hh o (by simp[AV.has]);rw[hl]at this;exact this.plain (by intros;simp))
 | @hsubNil r lo a hl=>exact fun hh=>.hsubNil a (by have:=hh r (by simp[AV.has]);rw[hl]at this;exact this.plain (by intros;simp))
 | @hsub r lo b off cap size n a hl hle ha=>exact fun hh=>.hsub (by have:=hh r (by simp[AV.has]);rw[hl]at this;exact this.plain (by intros;simp)) hle ha
 | z0 a=>exact fun _=>.z0 a
 | ifc h=>exact fun _=>.ifc h
 | @hpreNil r a hl=>exact fun hh=>.hpreNil a (by have:=hh r (by simp[AV.has]);rw[hl]at this;exact this.plain (by intros;simp))
 | @hpre r hi b off cap size n a hl hle ha=>exact fun hh=>.hpre (by have:=hh r (by simp[AV.has]);rw[hl]at this;exact this.plain (by intros;simp)) hle ha
 | @nsNil r a hl=>exact fun hh=>.nsNil a (by have:=hh r (by simp[AV.has]);rw[hl]at this;exact this.plain (by intros;simp))
 | @ns r b off cap size n size2 subs a hl ha=>exact fun hh=>by have:=hh r (by simp[AV.has]);rw[hl]at this;obtain ⟨more,h2⟩:=this.nest;exact .ns h2 ha
 | @np r idx j b off cap size n size2 subs hl hi=>exact fun hh=>by have:=hh r (by simp[AV.has]);rw[hl]at this;obtain ⟨more,h2⟩:=this.nest;exact .np h2 hi
 | @hnNil r idx b off cap size n size2 subs a cap2 hl hs=>exact fun hh=>by have:=hh r (by simp[AV.has]);rw[hl]at this;obtain ⟨more,h2⟩:=this.nest;exact .hnNil a cap2 h2 (zGb hs)
 | @hn r idx b off cap size n size2 b2 off2 cap2 n2 subs hl hs=>exact fun hh=>by have:=hh r (by simp[AV.has]);rw[hl]at this;obtain ⟨more,h2⟩:=this.nest;exact .hn h2 (zGb hs)
 | @hnp r idx k j b off cap size n size2 b2 off2 cap2 n2 subs hl hs hk=>exact fun hh=>by have:=hh r (by simp[AV.has]);rw[hl]at this;obtain ⟨more,h2⟩:=this.nest;exact .hnp h2 (zGb hs) hk
 | nn h=>exact fun _=>.nn h
 | @ls o b hl=>exact fun hh=>.ls (by have:=hh o (by simp[AV.has]);rw[hl]at this;exact this.plain (by intros;simp))
 | @mr o b subs hl=>exact fun hh=>by have:=hh o (by simp[AV.has]);rw[hl]at this;obtain ⟨s,h2⟩:=this.mapr;exact .mr h2
theorem kIb{g g' :G}{r r2:Nat}(hx:Ext g.w g.u g'.w g'.u)(hl:∀k,k≠r->g'.loc k=g.loc k)(hr:Jha (g.loc r) (g'.loc r)){c:AV}{v:Value}(h:Rel g c v):Rel g' (c.clr r2) v:=by
 unfold AV.clr;cases hc:c.has r2 with
 | true=>exact .any _
 | false=>
  refine h.more hx fun o ho=>?_
  by_cases hor:o=r
  .subst hor;exact hr
  exact .inl (hl o hor)
variable {E:Env} {fr:Fr} {σ:Sto} {K:Post} {P:Program} {ρ:Operand->AV}
variable {dst:Option Tmp} {ty:TypeId} {pos:String} {af:Array Edge} {gu:Option (Nat × Bool)}
section
variable {α β:Type} {F:α->List PV} {G2:β->List PV} {l:List α} {l2:List β} {r r2 size size2 bytes sb ss k j m:Nat} {e e2 t:TypeId} {zero sz:Value} {d:TypeDesc} {x y:Operand}
variable {t' :TypeId} {size' bytes' :Nat} {zero' :Value} {d' :TypeDesc} {n:Int} {j0:Nat} {v v' :α} {c:PV}
theorem JUa{g:G}{vx:Value}(hob:RelO g r2 (.row e2 true size2 (l2.map G2)))(hx:Rel g (.hs r2 0) vx):
 ∃s,QXa g.w g.u e2 size2 (l2.map G2) s vx/\∀t,s=some t->(AO.row e2 true size2 (l2.map G2)).own (g.loc r2) t.1:=by
 generalize hls:l2.map G2=ls at hob;cases hob with
 | nil hl=>
  cases hx with
  | hsNil a h1=>exact ⟨none,⟨rfl,a,0,rfl,fun _=>rfl⟩,fun t ht=>by cases ht⟩
  | hs h1=>rw[hl]at h1;cases h1
 | @row _ _ _ _ b off cap vs h1 h2 h3 h4 h5 h6 h7 h8 h9=>
  cases hx with
  | hsNil a hl=>rw[h1]at hl;cases hl
  | @hs _ _ _ _ _ _ ad hl ha=>
   rw[h1]at hl;cases hl;rcases Nat.eq_zero_or_pos ls.length with h0 | h0
   .refine ⟨none,⟨jBi h0,some ad,cap,by rw[h0],fun hx=>by cases hx⟩,fun t ht=>by cases ht⟩
   have:=ha (by omega);subst this;exact ⟨some (b,off,cap,ls.length),⟨rfl,rfl,h0,⟨vs,h2,h3,h9⟩,h4,h5,h6,h7,fun _=>h8 rfl⟩,fun t ht=>by cases ht;rw[h1];rfl⟩
theorem wjb(hx:fr.ev x=.np r n.toNat j0)(hr:σ.get r=some (.nrow e size j e2 size2 m (l.map F)))(hy:fr.ev y=.hs r2 0)(hr2:σ.get r2=some (.row e2 true size2 (l2.map G2)))(hne:Nat.beq r r2=false)(ht:TyOk E.P t' 1 bytes' zero' d')
 (hj:Nat.beq j0 j=true) (hv:idx l n=some v) (hm:n.toNat=m) (hjs:Nat.ble (j+1) (F v).length=true) (hF' :F v' =(F v).set j (.sl none (l2.map G2))):
 OpTo E ⟨none,.store t' x y,ty,pos,af,gu⟩ fr σ (fr.mp (AV.clr r2)) (((σ.dels [r2]).mp (AV.clr r2)).upd r (.nrow e size j e2 size2 (m+1) ((l.set n.toNat v').map F))):=
 ⟨fun g a K Q hst hK=>by
  obtain rfl:=jAn hj;have hjs:=jAe hjs;have hne:r≠r2:=by rintro rfl;simp at hne
  refine ⟨fun _ _=>trivial,?_⟩;rw[jBe _ _ _ (fun c=>by simp)];have h1:=hst.ev x;rw[hx]at h1;have h2:=hst.ev y;rw[hy]at h2;obtain ⟨hn0,hv⟩:=vga hv;have hob:=hst.so.obj r _ hr;obtain ⟨b,off,cap,cur,subs,hN⟩:=Wua hob hv;have e1:=kGb hN h1;obtain ⟨s,hS,hSown⟩:=JUa (hst.so.obj r2 _ hr2) h2;have hlt:=(jAc.1 hv).1;have hFz:=hN.z v (jAd hv);have hcell:=yBb hS;have hcells:(a.eval y).cells= #[a.eval y]:=by cases hc:a.eval y <;> rw[hc]at hcell <;> first | rfl | cases hcell
  obtain ⟨w',new,hrun,hW⟩:=jva (P:=E.P) (w:=g.w) (t:=e) (cur:=cur) (ty:=ty) (pos:=pos) (af:=af) (gu:=gu) (y:=y) e1 ht (by rw[hcells];rfl) (by rw[hcells];intro i hi;simp at hi;subst hi;exact hcell) hN.heap (by have:=hN.place hlt (by omega:j0 < size);omega);rw[hcells]at hW;rw[hrun,Oper.uponIn_skip];have hxx:=hW.ext (u:=g.u) hN.heap hN.u;have hFv' :(F v').length=size:=by rw[hF',jCk,hFz]
  have hFj:(F v')[j0]? =some (.sl none (l2.map G2)):=by rw[hF',jBp (by omega)]
  have hF1:∀q,q≠j0->(F v')[q]? =(F v)[q]? :=fun q hq=>by rw[hF',jBq (Ne.symm hq)]
  have hkeep:∀i' q,q < size->(i' ≠n.toNat∨q≠j0)->new.getD ((off+i') * size+q) undef=cur.getD ((off+i') * size+q) undef:=fun i' q hq h=>hW.out _ (zFb (len:=1) hq (by omega) (by omega))
  have hnew:new.getD ((off+n.toNat) * size+j0) undef=a.eval y:=by
   have:=hW.inn 0 (by simp);simpa using this
  let g' :G:=⟨w',g.u,fun k=>if k=r then .nest b off cap size l.length size2 (subs++ [s]) else g.loc k⟩;have hl' :g'.loc r=.nest b off cap size l.length size2 (subs++ [s]):=if_pos rfl;have hk' :∀k,k≠r->g'.loc k=g.loc k:=fun k hk=>if_neg hk
  have hbn:∀t,s=some t->t.1≠b:=by
   rintro t ht rfl;exact hne (hst.so.apart r r2 _ _ t.1 hr hr2 (by rw[hN.loc];exact .inl rfl) (hSown t ht))
  have hS' :QXa w' g.u e2 size2 (l2.map G2) s (a.eval y):=hS.mono hxx.to0 fun t ht=>⟨hW.other t.1 (hbn t ht),rfl⟩
  have hN' :NAt g' r e size j0 e2 size2 (m+1) F (l.set n.toNat v') b off cap new (subs++ [s]):=by
   refine ⟨by rw[jCk];exact hl',hW.here,hW.sz.trans hN.sz,hN.max,by rw[jCk];exact hN.le,fun z hz' =>?_,hN.u,by rw[jAl,hN.sl];rfl,by rw[jCk];omega,?_,fun i' j' z c hi' hj' hc=>?_,fun i' s' z hs hz' =>?_⟩
   .rcases jBn hz' with h2 | rfl
    .exact hN.z z h2
    exact hFv'
   .rw[wEa];have hnd:=hN.nd;cases hs:s with
    | none=>simpa[zWa]using hnd
    | some t=>
     have htb:=hbn t hs;have hnin:t.1 ∉ zWa subs:=fun hin=>hne (hst.so.apart r r2 _ _ t.1 hr hr2 (by rw[hN.loc];exact .inr hin) (hSown t hs))
     rw[show zWa [some t]=[t.1] from rfl,<-List.cons_append];rw[List.nodup_append];refine ⟨hnd,by simp,fun q hq q' hq' =>?_⟩;simp only[jCe]at hq';subst hq';rintro rfl;rcases jCf.1 hq with h3 | h3
     .exact htb h3
     exact hnin h3
   .by_cases hin:i' =n.toNat
    .subst hin;rw[jBp hlt]at hi';cases hi';have hjj:j' ≠j0:=by omega
     have hjs' :j' < size:=by rw[<-hFv'];exact (jAc.1 hj').1
     rw[hkeep _ j' hjs' (.inr hjj)];rw[hF1 j' hjj]at hj';exact (hN.cell _ j' v c hv hj' (.inr hjj)).mono hxx
    rw[jBq (by omega)]at hi';have hjs' :j' < size:=by rw[<-hN.z z (jAd hi')];exact (jAc.1 hj').1
    rw[hkeep i' j' hjs' (.inl hin)];exact (hN.cell i' j' z c hi' hj' (by omega)).mono hxx
   by_cases hin:i' =n.toNat
   .subst hin;rw[jBp hlt]at hz';cases hz';rw[jAj (by rw[hN.sl];omega),hN.sl,hm,Nat.sub_self]at hs;simp only[jDs,Option.some.injEq]at hs;subst hs;exact ⟨_,hFj,by rw[hnew];exact hS'⟩
   rw[jBq (by omega)]at hz';have hil:i' < subs.length:=by
    have:=(jAc.1 hs).1;simp only[jAl,jCt]at this;have:=hN.sl;omega
   rw[jAk hil]at hs;obtain ⟨rows,q1,q2⟩:=hN.sub i' s' z hs hz';refine ⟨rows,q1,?_⟩;rw[hkeep i' j0 (by omega) (.inl hin)];refine q2.mono hxx.to0 fun t ht=>⟨hW.other t.1 ?_,rfl⟩
   rintro rfl;subst ht;exact (jBo.1 hN.nd).1 (jka hs)
  have hle:Jha (g.loc r) (g'.loc r):=.inr <| .inl ⟨b,off,cap,size,l.length,size2,subs,[s],hN.loc,hl'⟩;refine hK g' _ (St.put_none (hst.turn (g' :=g') hr [r2] (by simpa using hne) (AV.clr r2) rfl (fun c v h=>kIb hxx hk' hle h) hxx hk' hW.os hW.tape hW.output (fun q hq hno=>⟨hW.other q ?_,rfl⟩) (j8a hst.so.wf (jBy hW.size.symm) _) hN'.obj (fun q hq=>.inl ?_)))
  .rintro rfl;exact hno r _ (.inl rfl) hr (by rw[hN.loc];exact .inl rfl)
  rw[hl']at hq;rcases hq with hq | hq
  .exact ⟨r,_,.inl rfl,hr,by rw[hN.loc];exact .inl hq⟩
  have hq:q∈zWa (subs++ [s]):=hq;rw[wEa]at hq;rcases jCj.1 hq with hq | hq
  .exact ⟨r,_,.inl rfl,hr,by rw[hN.loc];exact .inr hq⟩
  cases hs:s with
  | none=>rw[hs]at hq;cases hq
  | some t=>
   rw[hs,show zWa [some t]=[t.1] from rfl,jCe]at hq;subst hq;exact ⟨r2,_,.inr (by simp),hr2,hSown t hs⟩⟩
end
end
section
open Go.RowKit Go.Lib Go.Proofs.Tryz
def nall(m n:Nat):Option Bool:=if m=n then some true else none
theorem Kxa{m n:Nat}{r:Bool}(h:nall m n=some r):m=n:=by
 unfold nall at h;split at h
 .assumption
 cases h
variable {E:Env} {fr:Fr} {σ:Sto} {K:Post} {P:Program} {ρ:Operand->AV}
variable {dst:Option Tmp} {ty:TypeId} {pos:String} {af:Array Edge} {gu:Option (Nat × Bool)}
section
variable {α β:Type} {F:α->List PV} {G2:β->List PV} {l r' :List α} {l2:List β} {r r2 o size size2 bytes sb ss k j m lim:Nat} {e e2 t:TypeId} {zero sz:Value} {d:TypeDesc} {x y:Operand} {v:α} {cs:List AV}
theorem Kya(o:Nat)(hN:Nat.ble (k+1) E.N=true)(hfo:fr.has o=false)(hso:σ.has o=false)(ht:TyOk E.P t ss sb sz (.slice e))(he:TyOk E.P e size bytes zero d)(hzs:(Nat.beq zero.cells.size size && Nat.ble 1 size && zero.cells.toList.all cellV && Nat.ble size 16777216)=true)
 (hc:znb (fun i=>some (i * size,size)) (List.replicate size .any) [(0,(fr.ev y).weak)]=some cs) (hcs:AV.hasL o cs=false):
 OpTo E ⟨some k,.buildSlice t 1 #[(0,y)],ty,pos,af,gu⟩ fr σ ((k,.ls o)::fr) ((o,.cells cs)::σ):=
 ⟨fun g a K Q hst hK=>by
  simp only[jAs]at hzs;have hz1:=jAn hzs.1.1.1;have hz2:=jAe hzs.1.1.2;have hz4:=jAe hzs.2;refine ⟨fun _ _=>trivial,?_⟩;rw[jBe _ _ _ (fun c=>by simp)];generalize harr:((Array.range (1 * size)).map (fun i=>zero.cells[i % zero.cells.size]!))=arr;have hasz:arr.size=size:=by rw[<-harr];simp
  have hacell:∀i,i < arr.size->cellV (arr.getD i undef)=true:=by
   intro i hi;rw[hasz]at hi;have hlt:i % zero.cells.size < zero.cells.size:=Nat.mod_lt _ (by omega);have:arr.getD i undef=zero.cells[i % zero.cells.size]:=by
    rw[<-harr];simp[hi,hlt]
   rw[this];have h3:=hzs.1.2;rw[jAx]at h3;exact h3 _ (by simp)
  obtain ⟨out,h1,h2⟩:=zob (g:=g) [(0,(fr.ev y).weak)] [(0,a.eval y)] (List.replicate size .any) arr cs
   ⟨by simp[hasz],hacell,fun i c hi=>by
    have:=jAd hi;rw[jDe]at this;rw[this.2];exact .any _⟩ (by simp) (fun i p v hp hv=>by
   cases i with
   | zero=>simp at hp hv;subst hp;subst hv;exact ⟨rfl,vPa (hst.ev y)⟩
   | succ i=>simp at hp) hc
  have hrun:(execOp a.eval ⟨some k,.buildSlice t 1 #[(0,y)],ty,pos,af,gu⟩).run E.P g.w=.ok (.value (.slice (some ⟨g.w.heap.size,0,none⟩) 1 1)) (g.w.alloc (.cells out e)):=by
   show Sem.run E.P (do let v <-Instr.buildSlice t 1 ((#[(0,y)]:Array (Nat × Operand)).map fun (i,x)=>(i,a.eval x));pure (Next.value v)) g.w=_;have e1:((#[(0,y)]:Array (Nat × Operand)).map fun (x:Nat × Operand)=>(x.1,a.eval x.2)).toList=[(0,a.eval y)]:=by simp
   have hgt:¬(1 * size > 2 ^ 24):=by simp;omega
   have h0:¬(1 * size=0):=by omega
   simp only[Instr.buildSlice,underlying,program,jAu,Sem.run,ht.u,he.sizeOf,jAp,jBc,if_neg hgt,if_neg h0,he.zeroValue,e1,harr,h1];rfl
  rw[hrun,jBd];have hst' :=hst.box o hfo hso e h2.n h2.c h2.r hcs;exact hK _ _ (hst'.put (jAe hN) (.ls (if_pos rfl)))⟩
theorem Ysa{g:G}{a:Act}{subs:List (Option (Nat × Nat × Nat × Nat))}{s:Option (Nat × Nat × Nat × Nat)}{w' :World}{b' off' cap' :Nat}{nw:Array Value}(hst:St E g a fr σ)(hr:σ.get r=some (.nrow e size j e2 size2 l.length (l.map F)))(hr2:σ.get r2=some (.row e2 true size2 (l2.map G2)))(ho:σ.get o=some (.cells cs))(hne2:r≠r2)(hneo:r≠o)
 (hsub0:(g.loc r=.nilRow/\l=[]/\subs=[])∨∃b off cap n,g.loc r=.nest b off cap size n size2 subs)
 (hsl:subs.length=l.length) (hz:∀x∈l,(F x).length=size) (hFz:(F v).length=size) (hFj:(F v)[j]? =some (.sl none (l2.map G2)))
 (hos:w'.os=g.w.os) (htape:w'.tape=g.w.tape) (hout:w'.output=g.w.output) (hx:Ext g.w g.u w' g.u)
 (hheap:w'.heap[b']? =some (.cells nw e (0,0))) (hother:∀q,q < g.w.heap.size->q≠b' ->w'.heap[q]? =g.w.heap[q]?) (hb' :(AO.nrow e size j e2 size2 l.length (l.map F)).own (g.loc r) b' /\b' ∉ zWa subs∨g.w.heap.size<=b') (hu:g.u b' =0)
 (hnsz:nw.size=(off' +cap') * size) (hcap:cap' <=maxLen) (hle:l.length+1<=cap') (hwfs:g.w.heap.size<=w'.heap.size)
 (hold:∀i j' x c,l[i]? =some x->(F x)[j']? =some c->(l.length<=i∨j' ≠j)->RelP g.w g.u c (nw.getD ((off' +i) * size+j') undef))
 (holds:∀i s x,subs[i]? =some s->l[i]? =some x->∃rows,(F x)[j]? =some (.sl none rows)/\QXa g.w g.u e2 size2 rows s (nw.getD ((off' +i) * size+j) undef))
 (hnew:∀j' c,(F v)[j']? =some c->j' ≠j->RelP g.w g.u c (nw.getD ((off' +l.length) * size+j') undef))
 (hnews:QXa g.w g.u e2 size2 (l2.map G2) s (nw.getD ((off' +l.length) * size+j) undef)) (hsown:∀t,s=some t->(AO.row e2 true size2 (l2.map G2)).own (g.loc r2) t.1) (hnd:(zWa subs).Nodup):
 St E ⟨w',g.u,fun q=>if q=r then .nest b' off' cap' size (l++ [v]).length size2 (subs++ [s]) else g.loc q⟩ a (fr.mp (AV.clrs [r,r2,o])) (((σ.dels [r2,o]).mp (AV.clrs [r,r2,o])).upd r (.nrow e size j e2 size2 (l.length+1) ((l++ [v]).map F))):=by
 let g' :G:=⟨w',g.u,fun q=>if q=r then .nest b' off' cap' size (l++ [v]).length size2 (subs++ [s]) else g.loc q⟩;have hl' :g'.loc r=.nest b' off' cap' size (l++ [v]).length size2 (subs++ [s]):=if_pos rfl;have hk' :∀q,q≠r->g'.loc q=g.loc q:=fun q hq=>if_neg hq
 have hsubown:∀q,q∈zWa subs->(AO.nrow e size j e2 size2 l.length (l.map F)).own (g.loc r) q:=by
  intro q hq;rcases hsub0 with ⟨_,_,rfl⟩ | ⟨b,off,cap,n,h⟩
  .cases hq
  rw[h];exact .inr hq
 have hlt:∀q,(AO.nrow e size j e2 size2 l.length (l.map F)).own (g.loc r) q->q < g.w.heap.size:=fun q hq=>(hst.so.obj r _ hr).block_lt hq
 have hlt2:∀q,(AO.row e2 true size2 (l2.map G2)).own (g.loc r2) q->q < g.w.heap.size:=fun q hq=>(hst.so.obj r2 _ hr2).block_lt hq
 have hdis:∀q,(AO.nrow e size j e2 size2 l.length (l.map F)).own (g.loc r) q->¬(AO.row e2 true size2 (l2.map G2)).own (g.loc r2) q:=fun q h1 h2=>hne2 (hst.so.apart r r2 _ _ q hr hr2 h1 h2)
 have hb'sub:b' ∉ zWa subs:=by
  rcases hb' with h | h
  .exact h.2
  intro hin;have:=hlt _ (hsubown _ hin);omega
 have hb's:∀t,s=some t->t.1≠b' :=by
  rintro t ht rfl;rcases hb' with h | h
  .exact hdis _ h.1 (hsown t ht)
  have:=hlt2 _ (hsown t ht);omega
 have hN' :NAt g' r e size j e2 size2 (l.length+1) F (l++ [v]) b' off' cap' nw (subs++ [s]):=by
  refine ⟨hl',hheap,hnsz,hcap,by simpa using hle,fun z hz' =>?_,hu,by simp[hsl],by simp,?_,fun i' j' z c hi' hj' hc=>?_,fun i' s' z hs hz' =>?_⟩
  .rcases jCj.1 hz' with h | h
   .exact hz z h
   simp only[jCe]at h;rw[h];exact hFz
  .rw[wEa];cases hs:s with
   | none=>rw[show zWa [none]=[] from rfl,jCw];exact jBo.2 ⟨hb'sub,hnd⟩
   | some t=>
    rw[show zWa [some t]=[t.1] from rfl,jBo,List.nodup_append];refine ⟨fun hin=>?_,hnd,by simp,fun q hq q' hq' =>?_⟩
    .rcases jCj.1 hin with h | h
     .exact hb'sub h
     simp only[jCe]at h;exact hb's t hs h.symm
    simp only[jCe]at hq';subst hq';rintro rfl;exact hdis _ (hsubown _ hq) (hsown t hs)
  .rcases jBh i' l.length with h | h
   .rw[jAk h]at hi';exact (hold i' j' z c hi' hj' (by omega)).mono hx
   rw[jAj h]at hi';have:i' =l.length:=by have:=(jAc.1 hi').1;simp at this;omega
   subst this;rw[Nat.sub_self]at hi';cases hi';exact (hnew j' c hj' (by omega)).mono hx
  have hsame:∀t,s' =some t->t.1 < g.w.heap.size->t.1≠b' ->w'.heap[t.1]? =g.w.heap[t.1]? /\g.u t.1=g.u t.1:=fun t _ h1 h2=>⟨hother t.1 h1 h2,rfl⟩
  rcases jBh i' l.length with h | h
  .rw[jAk h]at hz';rw[jAk (by omega)]at hs;obtain ⟨rows,q1,q2⟩:=holds i' s' z hs hz';refine ⟨rows,q1,q2.mono hx.to0 fun t ht=>hsame t ht ?_ ?_⟩
   .subst ht;exact hlt _ (hsubown _ (jka hs))
   subst ht;rintro rfl;exact hb'sub (jka hs)
  rw[jAj h]at hz';have:i' =l.length:=by have:=(jAc.1 hz').1;simp at this;omega
  subst this;rw[Nat.sub_self]at hz';cases hz';rw[jAj (by omega),hsl,Nat.sub_self]at hs;cases hs;exact ⟨_,hFj,hnews.mono hx.to0 fun t ht=>hsame t ht (hlt2 _ (hsown t ht)) (hb's t ht)⟩
 refine hst.turn (g' :=g') hr [r2,o] (by simp[hne2,hneo]) (AV.clrs [r,r2,o]) rfl (fun c vx h=>WUa hx (fun q hq=>hk' q (by rintro rfl;simp at hq)) h) hx hk' hos htape hout (fun q hq hno=>⟨hother q hq ?_,rfl⟩) (j8a hst.so.wf hwfs _) hN'.obj (fun q hq=>?_)
 .rintro rfl;rcases hb' with h | h
  .exact hno r _ (.inl rfl) hr h.1
  omega
 rw[hl']at hq;rcases hq with hq | hq
 .cases hq;rcases hb' with h | h
  .exact .inl ⟨r,_,.inl rfl,hr,h.1⟩
  exact .inr h
 have hq:q∈zWa (subs++ [s]):=hq;rw[wEa]at hq;rcases jCj.1 hq with hq | hq
 .exact .inl ⟨r,_,.inl rfl,hr,hsubown q hq⟩
 cases hs:s with
 | none=>rw[hs]at hq;cases hq
 | some t=>
  rw[hs,show zWa [some t]=[t.1] from rfl,jCe]at hq;subst hq;exact .inl ⟨r2,_,.inr (by simp),hr2,hsown t hs⟩
theorem yIa(hN:Nat.ble (k+1) E.N=true)(hx:fr.ev x=.ns r)(hr:σ.get r=some (.nrow e size j e2 size2 m (l.map F)))(hy:fr.ev y=.ls o)(ho:σ.get o=some (.cells cs))(hcs:cs=((F v).map AV.pv).set j (.hs r2 0))(hr2:σ.get r2=some (.row e2 true size2 (l2.map G2)))(hne:(Nat.beq r r2 || Nat.beq r o)=false)
 (hFj:(F v)[j]? =some (.sl none (l2.map G2))) (hm:m=l.length) (ht:TyOk E.P t ss sb sz (.slice e)) (he:TyOk E.P e size bytes zero d)
 (hzz:Nat.beq zero.cells.size size=true) (hs:Nat.ble 1 size=true) (hF:∀x,(F x).length=size) (hlim:(Nat.ble (lim * bytes) 140737488355328 && Nat.ble lim 9223372036854775807)=true) (h:app lim l [v]=some r'):
 OpTo E ⟨some k,.call ⟨.builtin .append, #[x,y], #[t,t]⟩,ty,pos,af,gu⟩ fr σ ((k,.ns r)::fr.mp (AV.clrs [r,r2,o])) (((σ.dels [r2,o]).mp (AV.clrs [r,r2,o])).upd r (.nrow e size j e2 size2 (m+1) (r'.map F))):=
 ⟨fun g a K Q hst hK=>by
  obtain ⟨hle,rfl⟩:=WRa h;subst hm;simp only[jAs]at hlim;simp only[Bool.or_eq_false_iff]at hne;have hne2:r≠r2:=by rintro rfl;simp at hne
  have hneo:r≠o:=by rintro rfl;simp at hne
  have hl1:=jAe hlim.1;have hl2:=jAe hlim.2;have hzz:=jAn hzz;have hs:=jAe hs;simp only[jCt]at hle;refine ⟨fun _ _=>trivial,?_⟩;rw[jBe _ _ _ (fun c=>by simp)];have h1:=hst.ev x;rw[hx]at h1;have h2:=hst.ev y;rw[hy]at h2;have hoo:=hst.so.obj o _ ho;have hlb:(l.length+1) * bytes<=140737488355328:=jCh (jAo _ hle) hl1;generalize ev2:a.eval y=v2 at h2;cases hoo with
  | @cells _ b0 t0 vs0 q1 q2 q3 q4 q5 q6=>
  cases h2 with
  | ls p1=>
  rw[q1]at p1;cases p1;have hsz0:vs0.size=size:=by rw[q3,hcs];simp[hF]
  have hjs:j < size:=by rw[<-hF v];exact (jAc.1 hFj).1
  have hnl:vs0.toList.length=1 * size:=by simp[hsz0]
  have hcells:∀q u,vs0.toList[q]? =some u->g.w.cell? (Addr.add ⟨b0,0,none⟩ q)=some u:=by
   intro q u hq;have hlt:q < vs0.size:=by simpa using (jAc.1 hq).1
   rw[qia,jBx,kCa q2 hlt];rw[jAg,<-jBw,hq];rfl
  have hone:=Wva q5;have hval:∀j' c,(F v)[j']? =some c->j' ≠j->RelP g.w g.u c (vs0.getD j' undef):=by
   intro j' c hc hne;have:=q6 j' (.pv c) (by rw[hcs,jBq (Ne.symm hne)];simp[hc]);cases this with
   | pv h=>exact h
  have hsv:Rel g (.hs r2 0) (vs0.getD j undef):=q6 j _ (by rw[hcs,jBp (by simp[hF];exact hjs)]);obtain ⟨s,hS,hSown⟩:=JUa (hst.so.obj r2 _ hr2) hsv;obtain ⟨old,ev1,hold,hsubs⟩:∃old:Option Addr × Option (Nat × Nat × Nat × Array Value),a.eval x=oldV l.length old/\vUb g.w e size l.length old/\
   ((old.2=none/\g.loc r=.nilRow/\l=[])∨∃b off cap cur subs,old.2=some (b,off,cap,cur)/\NAt g r e size j e2 size2 l.length F l b off cap cur subs):=by
   rcases yAb (hst.so.obj r _ hr) with ⟨hl,rfl,_⟩ | ⟨b,off,cap,cur,subs,hNA⟩
   .generalize a.eval x=vx at h1;cases h1 with
    | nsNil ad h1=>exact ⟨(ad,none),rfl,rfl,.inl ⟨rfl,hl,rfl⟩⟩
    | ns h1=>rw[hl]at h1;cases h1
   generalize a.eval x=vx at h1;cases h1 with
   | nsNil ad h1=>rw[hNA.loc]at h1;cases h1
   | @ns _ _ _ _ _ _ _ _ ad h1 ha=>
    rw[hNA.loc]at h1;cases h1;exact ⟨(some ad,some (b,off,cap,cur)),rfl,⟨hNA.heap,hNA.sz,hNA.le,hNA.max,ad,rfl,ha⟩,.inr ⟨b,off,cap,cur,subs,rfl,hNA⟩⟩
  obtain ⟨v',w',hrun,hres⟩:=ZHa (ty:=ty) (c:=1) (m:=1) ht he hzz (by omega) hold hnl hcells hone hlb (by unfold maxLen;omega);rw[k7a (x:=x) (y:=y) (w:=g.w) (by rw[ev1,ev2];exact hrun),jBd];have hnewget:∀q,q < size->∀(nw:Array Value) (p:Nat),(∀q,q < vs0.toList.length->nw.getD (p+q) undef=vs0.toList.getD q undef)->nw.getD (p+q) undef=vs0.getD q undef:=by
   intro q hq nw p hh;rw[hh q (by rw[hnl];omega),jAm,jBw,jAg]
  cases hres with
  | same hm _ _=>omega
  | @room a0 b off cap cur ho2 hle2 _=>
   subst ho2;rcases hsubs with ⟨h3,_⟩ | ⟨b',off',cap',cur',subs,h3,hNA⟩
   .cases h3
   cases h3;have hfit:(off+l.length) * size+vs0.toList.length<=cur.size:=by rw[hnl,hNA.sz,<-jAw];exact jAo _ (by omega)
   have hW:=kHb (w:=g.w) (p:=(off+l.length) * size) (cl:=vs0.toList) hNA.heap hfit;have hxx:=hW.ext (u:=g.u) hNA.heap hNA.u;have hkeep:∀i q,i < l.length->q < size->(cur.toList.take ((off+l.length) * size)++vs0.toList++cur.toList.drop ((off+l.length) * size+vs0.toList.length)).toArray.getD ((off+i) * size+q) undef=cur.getD ((off+i) * size+q) undef:=fun i q hi hq=>hW.out _ (.inl (by
    have:(off+i+1) * size<=(off+l.length) * size:=jAo _ (by omega);rw[jAw (off+i)]at this;omega))
   have hst' :=Ysa (v:=v) (o:=o) (cs:=cs) (w' :=g.w.setRow b _) (b' :=b) (off' :=off) (cap' :=cap) (s:=s) (subs:=subs) hst hr hr2 ho hne2 hneo (.inr ⟨_,_,_,_,hNA.loc⟩) hNA.sl hNA.z (hF v) hFj hW.os hW.tape hW.output hxx hW.here (fun q _ hq=>hW.other q hq) (.inl ⟨by rw[hNA.loc];exact .inl rfl,(jBo.1 hNA.nd).1⟩) hNA.u (hW.sz.trans hNA.sz) hNA.max hle2 (jBy hW.size.symm)
    (fun i j' x c hi hj hc=>by rw[hkeep i j' (jAc.1 hi).1 (by rw[<-hF x];exact (jAc.1 hj).1)];exact hNA.cell i j' x c hi hj hc)
    (fun i s x hi hx=>by rw[hkeep i j (jAc.1 hx).1 hjs];exact hNA.sub i s x hi hx)
    (fun j' c hc hne=>by rw[hnewget j' (by rw[<-hF v];exact (jAc.1 hc).1) _ _ hW.inn];exact hval j' c hc hne)
    (by rw[hnewget j hjs _ _ hW.inn];exact hS) hSown (jBo.1 hNA.nd).2
   refine hK _ _ (hst'.put (jAe hN) ?_);have:=Rel.ns (g:=⟨g.w.setRow b (cur.toList.take ((off+l.length) * size)++vs0.toList++cur.toList.drop ((off+l.length) * size+vs0.toList.length)).toArray,g.u,fun q=>if q=r then .nest b off cap size (l++ [v]).length size2 (subs++ [s]) else g.loc q⟩) (r:=r) (a:=⟨b,off * size,none⟩) (if_pos rfl) (fun _=>rfl);simpa using this
  | @fresh cap cells hc hle2 hmx htk=>
   have hb0:(g.w.drew.alloc (.cells cells e)).heap[g.w.heap.size]? =some (.cells cells e (0,0)):=heap_alloc_new g.w.drew _;have hxx:Ext g.w g.u (g.w.drew.alloc (.cells cells e)) g.u:=⟨by simp,fun _ _=>jBb _,fun q i hq _=>by
    simp only[World.cell?];rw[show (g.w.drew.alloc (.cells cells e)).heap[q]? =g.w.heap[q]? from Below.heap_alloc g.w.drew _ _ hq],fun r' hr' =>(Below.heap_alloc g.w.drew _ _ (kQa hr')).trans hr'⟩
   have hplen:(jpa size (l.length * size) old).length=l.length * size:=by
    obtain ⟨a0,old⟩:=old;rcases hsubs with ⟨h3,_,rfl⟩ | ⟨b,off,cap0,cur,subs,h3,hNA⟩
    .dsimp only at h3;subst h3;simp[jpa]
    dsimp only at h3;subst h3;simp only[jpa,jBz,jCc,jBm,hNA.sz];rw[jAw,jCo];exact Nat.min_eq_left (jAo _ hNA.le)
   have hgetc:∀q,q < (l.length+1) * size->cells.getD q undef=(jpa size (l.length * size) old++vs0.toList).getD q undef:=by
    intro q hq;rw[jAg,<-jBw,jAm,<-htk,jAt hq]
   have hgnew:∀q,q < size->cells.getD ((0+l.length) * size+q) undef=vs0.getD q undef:=by
    intro q hq;rw[jBx,hgetc _ (by rw[jAw];omega),jAm,jAj (by omega),hplen,jCo,jBw,jAg]
   obtain ⟨subs,hs0,hsl,hz,hol,hsu,hnd⟩:∃subs,((g.loc r=.nilRow/\l=[]/\subs=[])∨∃b off cap n,g.loc r=.nest b off cap size n size2 subs)/\subs.length=l.length/\(∀x∈l,(F x).length=size)/\
    (∀i j' x c,l[i]? =some x->(F x)[j']? =some c->(l.length<=i∨j' ≠j)->RelP g.w g.u c (cells.getD ((0+i) * size+j') undef))/\(∀i s x,subs[i]? =some s->l[i]? =some x->∃rows,(F x)[j]? =some (.sl none rows)/\QXa g.w g.u e2 size2 rows s (cells.getD ((0+i) * size+j) undef))/\(zWa subs).Nodup:=by
    obtain ⟨a0,old⟩:=old;rcases hsubs with ⟨h3,h4,rfl⟩ | ⟨b,off,cap0,cur,subs,h3,hNA⟩
    .exact ⟨[],.inl ⟨h4,rfl,rfl⟩,rfl,fun x hx=>(by cases hx),fun i j' x c hi=>(by simp at hi),fun i s x hi=>(by simp at hi),List.nodup_nil⟩
    dsimp only at h3;subst h3;have hkeep:∀i q,i < l.length->q < size->cells.getD ((0+i) * size+q) undef=cur.getD ((off+i) * size+q) undef:=by
     intro i q hi hq;have h5:i * size+q < l.length * size:=by
      have:(i+1) * size<=l.length * size:=jAo _ hi;rw[jAw]at this;omega
     rw[jBx,hgetc _ (by rw[jAw];omega),jAm,jAk (by omega)];simp only[jpa];rw[jAt h5,jBf,jBw,jAg]
     congr 2
     rw[jAw];omega
    exact ⟨subs,.inr ⟨_,_,_,_,hNA.loc⟩,hNA.sl,hNA.z,fun i j' x c hi hj hc=>by rw[hkeep i j' (jAc.1 hi).1 (by rw[<-hF x];exact (jAc.1 hj).1)];exact hNA.cell i j' x c hi hj hc,
     fun i s x hi hx=>by rw[hkeep i j (jAc.1 hx).1 hjs];exact hNA.sub i s x hi hx,(jBo.1 hNA.nd).2⟩
   have hst' :=Ysa (v:=v) (o:=o) (cs:=cs) (w' :=g.w.drew.alloc (.cells cells e)) (b' :=g.w.heap.size) (off' :=0) (cap' :=cap) (s:=s) (subs:=subs) hst hr hr2 ho hne2 hneo hs0 hsl hz (hF v) hFj rfl rfl rfl hxx hb0 (fun q hq _=>Below.heap_alloc g.w.drew _ _ hq) (.inr (jBb _)) (hst.so.wf _ (jBb _)) (by rw[jBx];exact hc) hmx hle2 hxx.size hol hsu
    (fun j' c hc hne=>by rw[hgnew j' (by rw[<-hF v];exact (jAc.1 hc).1)];exact hval j' c hc hne) (by rw[hgnew j hjs];exact hS) hSown hnd
   refine hK _ _ (hst'.put (jAe hN) ?_);have:=Rel.ns (g:=⟨g.w.drew.alloc (.cells cells e),g.u,fun q=>if q=r then .nest g.w.heap.size 0 cap size (l++ [v]).length size2 (subs++ [s]) else g.loc q⟩) (r:=r) (a:=⟨g.w.heap.size,0,none⟩) (if_pos rfl) (fun _=>by simp);simpa using this⟩
end
end
section
open Go.RowKit Go.Lib Go.Proofs.Tryz
variable {E:Env} {fr:Fr} {σ:Sto} {K:Post}
theorem St.split{g g' :G}{a:Act}(h:St E g a fr σ){r r1:Nat}{ob0 ob ob1:AO}(hr:σ.get r=some ob0)(hf1:fr.has r1=false)(hs1:σ.has r1=false)(hg1:σ.get r1=none)(hw:g'.w=g.w)(hu:g'.u=g.u)(hl:∀k,k≠r->k≠r1->g'.loc k=g.loc k)(hle:Jha (g.loc r) (g'.loc r))
 (hok:ob0.has r1=false) (hob:RelO g' r ob) (hob1:RelO g' r1 ob1) (hsub:∀b,ob.own (g'.loc r) b->ob0.own (g.loc r) b) (hsub1:∀b,ob1.own (g'.loc r1) b->ob0.own (g.loc r) b) (hdis:∀b,ob.own (g'.loc r) b->¬ob1.own (g'.loc r1) b)
 (hhas:∀o ob2,o≠r->σ.get o=some ob2->ob2.has r=true->∃cs,ob2=.cells cs∨∃c v,ob2=.hold c v):St E g' a fr ((r1,ob1)::σ.upd r ob):=by
 have hne:r≠r1:=by rintro rfl;rw[hr]at hg1;cases hg1
 have hx:Ext g.w g.u g'.w g'.u:=by rw[hw,hu];exact Ext.refl _ _
 have hrel:∀c v,c.has r1=false->Rel g c v->Rel g' c v:=fun c v hc hv=>hv.more hx fun o ho=>by
  by_cases h1:o=r
  .subst h1;exact hle
  by_cases h2:o=r1
  .subst h2;rw[hc]at ho;cases ho
  exact .inl (hl o h1 h2)
 have hgu:=Sto.get_upd (ob:=ob) hr;have hget:∀o ob',Sto.get ((r1,ob1)::σ.upd r ob) o=some ob' ->(o=r1/\ob' =ob1)∨(o=r/\ob' =ob)∨(o≠r/\o≠r1/\σ.get o=some ob'):=by
  intro o ob' ho;rw[Sto.get_cons]at ho;split at ho
  .rename_i h1;cases ho;exact .inl ⟨h1.symm,rfl⟩
  rename_i h1;rw[hgu]at ho;split at ho
  .rename_i h2;cases ho;exact .inr (.inl ⟨h2,rfl⟩)
  rename_i h2;exact .inr (.inr ⟨h2,Ne.symm h1,ho⟩)
 refine ⟨fun d=>hrel _ _ ?_ (h.fr d),h.n,by rw[hw];exact h.df,⟨?_,?_,?_,?_,fun k hk=>by rw[hu];exact h.so.wf k (by rw[<-hw];exact hk)⟩⟩
 .cases hh:(fr.get d).has r1 with
  | false=>rfl
  | true=>rw[Fr.has_get hh]at hf1;cases hf1
 .intro o ob' ho;rcases hget o ob' ho with ⟨rfl,rfl⟩ | ⟨rfl,rfl⟩ | ⟨h1,h2,ho⟩
  .exact hob1
  .exact hob
  have hro:=h.so.obj o ob' ho;have hn:ob'.has r1=false:=by
   cases hh:ob'.has r1 with
   | false=>rfl
   | true=>rw[Sto.has_get ho hh]at hs1;cases hs1
  cases ob' with
  | cells cs=>
   cases hro with
   | @cells _ b t vs q1 q2 q3 q4 q5 q6=>
    refine .cells ((hl o h1 h2).trans q1) (by rw[hw];exact q2) q3 (by rw[hu];exact q4) q5 fun i c hi=>hrel c _ ?_ (q6 i c hi)
    cases hh:c.has r1 with
    | false=>rfl
    | true=>rw[show (AO.cells cs).has r1=AV.hasL r1 cs from rfl,AV.hasL_of hi hh]at hn;cases hn
  | hold c v=>cases hro with
   | hold q1=>exact .hold (hrel c _ hn q1)
  | _=>exact hro.mono hx (hl o h1 h2) (fun _ hk=>by cases hk) fun b _=>by rw[hw,hu];exact ⟨rfl,rfl⟩
 .intro o o' oa ob' b h1 h2 h3 h4;rcases hget o oa h1 with ⟨rfl,rfl⟩ | ⟨rfl,rfl⟩ | ⟨p1,p2,p3⟩ <;> rcases hget o' ob' h2 with ⟨rfl,rfl⟩ | ⟨rfl,rfl⟩ | ⟨q1,q2,q3⟩
  .rfl
  .exact absurd h3 (hdis b h4)
  .rw[hl o' q1 q2]at h4;exact absurd (h.so.apart r o' _ _ b hr q3 (hsub1 b h3) h4) (Ne.symm q1)
  .exact absurd h4 (hdis b h3)
  .rfl
  .rw[hl o' q1 q2]at h4;exact absurd (h.so.apart o o' _ _ b hr q3 (hsub b h3) h4) (Ne.symm q1)
  .rw[hl o p1 p2]at h3;exact absurd (h.so.apart o r _ _ b p3 hr h3 (hsub1 b h4)) p1
  .rw[hl o p1 p2]at h3;exact absurd (h.so.apart o o' _ _ b p3 hr h3 (hsub b h4)) p1
  rw[hl o p1 p2]at h3;rw[hl o' q1 q2]at h4;exact h.so.apart o o' _ _ b p3 q3 h3 h4
 .intro o oa b h1 h2;rcases hget o oa h1 with ⟨rfl,rfl⟩ | ⟨rfl,rfl⟩ | ⟨p1,p2,p3⟩
  .exact h.so.mine r _ b hr (hsub1 b h2)
  .exact h.so.mine o _ b hr (hsub b h2)
  rw[hl o p1 p2]at h2;exact h.so.mine o _ b p3 h2
 exact ⟨by rw[hw];exact h.so.old.os,by rw[hw];exact h.so.old.tape,by rw[hw];exact h.so.old.output,h.so.old.ext.trans hx,fun b hb hs=>by rw[hw,hu];exact h.so.old.block b hb hs⟩
section
variable {κ β:Type} [BEq κ] [LawfulBEq κ] {KK:KeyK κ} {G2:β->List PV} {P:Program} {ρ:Operand->AV} {t kt e e1:TypeId} {m x y:Operand} {o r size sz1 bytes k0:Nat} {d:TypeDesc} {es:List (κ × List β)} {k:κ} {l:List β}
variable {dst:Option Tmp} {ty:TypeId} {pos:String} {af:Array Edge} {gu:Option (Nat × Bool)}
abbrev mencR(KK:KeyK κ)(G2:β->List PV)(es:List (κ × List β)):List (Value × List (List PV)):=es.map fun p=>(KK.kf p.1,p.2.map G2)
structure MAt (g:G) (o:Nat) (e:TypeId) (size:Nat) (tk:Option Nat) (KK:KeyK κ) (G2:β->List PV) (es:List (κ × List β)) (b clock:Nat) (ents:Array MapEntry) (subs:List (Option (Nat × Nat × Nat × Nat))):Prop where
 loc:g.loc o=.mapr b subs
 heap:g.w.heap[b]? =some (.map ents clock)
 u:g.u b=0
 n:ents.size=es.length
 sl:subs.length=es.length
 nd:(b::zWa subs).Nodup
 key:∀(i:Nat) p x,es[i]? =some p->ents[i]? =some x->x.key=KK.kf p.1
 cv:∀(i:Nat) x,ents[i]? =some x->cellV x.val=true
 ent:∀(i:Nat) p x,es[i]? =some p->ents[i]? =some x->(tk=some i/\subs[i]? =some none∨tk≠some i/\∃s,subs[i]? =some (some s)/\ZFa g.w g.u e false size (p.2.map G2) s x.val)
theorem MAt.obj{g:G}{tk:Option Nat}{b clock:Nat}{ents:Array MapEntry}{subs:List (Option (Nat × Nat × Nat × Nat))}(h:MAt g o e1 size tk KK G2 es b clock ents subs):RelO g o (.mapr e1 size tk (mencR KK G2 es)):=
 .mapr h.loc h.heap h.u (by simpa[mencR]using h.n) (by simpa[mencR]using h.sl) h.nd fun i k' rows hi=>by
  simp only[mencR,jAr,jAi,Prod.mk.injEq]at hi;obtain ⟨p,hp,rfl,rfl⟩:=hi;have hlt:i < ents.size:=by rw[h.n];exact (jAc.1 hp).1
  have hx:=jBj hlt;exact ⟨_,hx,h.key i p _ hp hx,h.cv i _ hx,h.ent i p _ hp hx⟩
def V4a:Loc->Loc
 | .map b=>.mapr b []
 | l=>l
def AV.mrs(o:Nat):AV->AV
 | .mp x=>bif Nat.beq x o then .mr o else .mp x
 | c=>bif c.has o then .any else c
theorem rel_mrs{g g' :G}(hx:Ext g.w g.u g'.w g'.u)(hk:∀k,k≠o->g'.loc k=g.loc k)(hl:g'.loc o=V4a (g.loc o)){c:AV}{v:Value}(h:Rel g c v):Rel g' (c.mrs o) v:=by
 cases c
 case mp x=>
  cases hb:Nat.beq x o with
  | true=>
   rw[show AV.mrs o (.mp x)=.mr o by show (bif Nat.beq x o then AV.mr o else AV.mp x)=_;rw[hb];rfl];have:x=o:=jAn hb;subst this;cases h with
   | mp h1=>exact .mr (subs:=[]) (by rw[hl,h1];rfl)
  | false=>
   rw[show AV.mrs o (.mp x)=.mp x by show (bif Nat.beq x o then AV.mr o else AV.mp x)=_;rw[hb];rfl];have hne:x≠o:=by rintro rfl;simp at hb
   exact h.mono hx fun k hk' =>hk k (by have:=jAn (show Nat.beq x k=true from hk');subst this;exact hne)
 all_goals exact V1a hx hk h
theorem St.mapr{g:G}{a:Act}(h:St E g a fr σ)(ho:σ.get o=some (.mapo false []))(e:TypeId)(size:Nat):
 St E ⟨g.w,g.u,fun k=>if k=o then V4a (g.loc o) else g.loc k⟩ a (fr.mp (AV.on (AV.mrs o))) (((σ.dels []).mp (AV.on (AV.mrs o))).upd o (.mapr e size none [])):=by
 have hl:(⟨g.w,g.u,fun k=>if k=o then V4a (g.loc o) else g.loc k⟩:G).loc o=V4a (g.loc o):=if_pos rfl;have hob:=h.so.obj o _ ho;generalize hms:([]:List (Value × List PV))=ms at hob;cases hob with
 | @mapo _ _ b clock ents h1 h2 h3 h4 h5=>
  subst hms;refine h.turn (g' :=⟨g.w,g.u,fun k=>if k=o then V4a (g.loc o) else g.loc k⟩) ho [] (by simp) _ rfl (fun c v=>yzb fun c v=>rel_mrs (g:=g) (g' :=⟨g.w,g.u,fun k=>if k=o then V4a (g.loc o) else g.loc k⟩) (Ext.refl _ _) (fun k hk=>if_neg hk) hl) (Ext.refl _ _) (fun k hk=>if_neg hk) rfl rfl rfl (fun _ _ _=>⟨rfl,rfl⟩) h.so.wf ?_ (fun q hq=>.inl ⟨o,_,.inl rfl,ho,?_⟩)
  .exact .mapr (subs:=[]) (by rw[hl,h1];rfl) h2 h3 h4 rfl (by simp[zWa]) (fun i k rows hi=>by simp at hi)
  rw[hl,h1]at hq;rw[h1];rcases hq with hq | hq
  .exact hq
  cases hq
end
end
section
section
variable {E:Env} {ρ:Operand->AV} {P:Program} {fr FR:Fr} {σ:Sto} {dst:Option Nat} {ty:TypeId} {pos:String} {af:Array Edge} {gu:Option (Nat × Bool)}
theorem zIa{x:Operand}{r i j0:Nat}(hx:ρ x=.np r i j0):EvQ P ⟨dst,.nilCheck x,ty,pos,af,gu⟩ ρ σ (.np r i j0):=
 ⟨fun c=>by simp,fun g ρv h _=>by
  have h1:=h x (by simp[Op.operands]);rw[hx]at h1;generalize hv:ρv x=v at h1;cases h1 with
  | np hl hi=>
   refine ⟨_,?_,.np hl hi⟩;simp[execOp,hv,go_sem]⟩
theorem zwa{x:Operand}{t:TypeId}{r i j0 f q:Nat}{fs:Array Field}{fl:Field}{fsize fbytes:Nat}{fzero:Value}{fd:TypeDesc}(hx:ρ x=.np r i j0)(ht:P.underlying t=some (.struct fs))(hf:fs[f]? =some fl)(hft:TyOk P fl.type fsize fbytes fzero fd)(hz:Nat.beq fsize 0=false)(hq:Nat.beq (j0+fl.offset) q=true):
 EvQ P ⟨dst,.fieldAddr t x f,ty,pos,af,gu⟩ ρ σ (.np r i q):=by
 rw[<-jAn hq];exact Yra hx ht hf hft hz
theorem qoa{x:Operand}{t:TypeId}{r i k0 j0 f q:Nat}{fs:Array Field}{fl:Field}{fsize fbytes:Nat}{fzero:Value}{fd:TypeDesc}(hx:ρ x=.hnp r i k0 j0)(ht:P.underlying t=some (.struct fs))(hf:fs[f]? =some fl)(hft:TyOk P fl.type fsize fbytes fzero fd)(hz:Nat.beq fsize 0=false)(hq:Nat.beq (j0+fl.offset) q=true):
 EvQ P ⟨dst,.fieldAddr t x f,ty,pos,af,gu⟩ ρ σ (.hnp r i k0 q):=by
 rw[<-jAn hq];exact WFa hx ht hf hft hz
theorem ev_min3{k:IntKind}{a b c:Int}{x y z:Operand}{ats:Array TypeId}(hx:ρ x=.pv (.b (.int k a)))(hy:ρ y=.pv (.b (.int k b)))(hz:ρ z=.pv (.b (.int k c))):EvQ P ⟨dst,.call ⟨.builtin .min, #[x,y,z],ats⟩,ty,pos,af,gu⟩ ρ σ (.pv (.b (.int k (min (min a b) c)))):=
 ⟨fun c=>by simp,fun g ρv h _=>by
  have h1:=h x (by simp[Op.operands,Call.operands]);have h2:=h y (by simp[Op.operands,Call.operands]);have h3:=h z (by simp[Op.operands,Call.operands]);rw[hx]at h1;rw[hy]at h2;rw[hz]at h3;have e1:=kka h1;have e2:=kka h2;have e3:=kka h3;refine ⟨.int k (min (min a b) c),?_,.pv (.b rfl)⟩;have q1:(if b < a then b else a)=min a b:=by omega
  have q2:(if c < min a b then c else min a b)=min (min a b) c:=by omega
  simp[execOp,resolve,Deferred.ofValue,invoke,builtin,Builtin.min_,Builtin.min2,e1,e2,e3,go_sem,q1,q2]⟩
end
section
variable {E:Env} {FR:Fr} {σ:Sto} {ty:TypeId} {pos:String} {af:Array Edge} {gu:Option (Nat × Bool)} {α β:Type} {F:α->List PV} {G2:β->List PV} {l:List α} {l2:List β} {e e2 t' :TypeId} {size size2 size' bytes' j j0 m r r2:Nat} {zero' :Value} {d' :TypeDesc} {x y:Operand} {n n2:Int} {v v' :α} {w2 w2' :β} {pcs:List PV}
theorem V5a(hx:FR.ev x=.np r n.toNat j0)(hr:σ.get r=some (.nrow e size j e2 size2 m (l.map F)))(hy:(FR.ev y).weak.cells=some (pcs.map .pv))(ht:TyOk E.P t' size' bytes' zero' d')(hz:Nat.beq pcs.length size' =true)
 (hv:idx l n=some v) (hle:Nat.ble (j0+pcs.length) (F v).length=true) (hj:(Nat.ble (j+1) j0 || Nat.ble (j0+pcs.length) j)=true) (hF' :F v' =(F v).take j0++pcs++(F v).drop (j0+pcs.length)):
 HvS E ⟨none,.store t' x y,ty,pos,af,gu⟩ FR σ (σ.upd r (.nrow e size j e2 size2 m ((l.set n.toNat v').map F))):=
 ⟨fun fr he _=>yHa ((he x (by simp[Op.operands,Call.operands])).trans hx) hr (by rw[he y (by simp[Op.operands,Call.operands])];exact hy) ht hz hv hle hj hF'⟩
theorem frLe_mp1{fr:Fr}:FrLe (fr.mp (AV.clr r2)) (fr.clrs [r2]):=fun d=>by
 rw[Fr.get_mp rfl,Fr.get_clrs];exact .inr (.inl (by simp[AV.clr,AV.clrs]))
theorem zHb(hx:FR.ev x=.np r n.toNat j0)(hr:σ.get r=some (.nrow e size j e2 size2 m (l.map F)))(hy:FR.ev y=.hs r2 0)(hr2:σ.get r2=some (.row e2 true size2 (l2.map G2)))(hne:Nat.beq r r2=false)(ht:TyOk E.P t' 1 bytes' zero' d')
 (hj:Nat.beq j0 j=true) (hv:idx l n=some v) (hm:n.toNat=m) (hjs:Nat.ble (j+1) (F v).length=true) (hF' :F v' =(F v).set j (.sl none (l2.map G2))):
 HvP E ⟨none,.store t' x y,ty,pos,af,gu⟩ FR σ [r2] (((σ.dels [r2]).mp (AV.clr r2)).upd r (.nrow e size j e2 size2 (m+1) ((l.set n.toNat v').map F))):=
 ⟨fun fr he _=>Yna (wjb ((he x (by simp[Op.operands,Call.operands])).trans hx) hr ((he y (by simp[Op.operands,Call.operands])).trans hy) hr2 hne ht hj hv hm hjs hF') frLe_mp1 kRa⟩
end
end
section
section
variable {P:Program} {t:TypeId}
structure EqOkD (P:Program) (k:Nat) (t:TypeId) (x y:Value) (r:Bool):Prop where
 run:∀d w,(Op.equalIn (d+k) t x y).run P w=.ok r w
theorem wkb{k:Nat}{l:List Field}{xs ys:Array Value}{rs:List Bool}(ht:P.underlying t=some (.struct l.toArray))(hst:P.stoodInHeld t=false)(hl:rs.length=l.length)
 (h : ∀ (i : Nat) f r, l[i]? = some f -> rs[i]? = some r -> f.name ≠ "_" /\ ∃ x y, (∀ w, (part f.type xs f.offset).run P w = .ok x w) /\ (∀ w, (part f.type ys f.offset).run P w = .ok y w) /\ EqOkD P k f.type x y r) (d : Nat) (w : World) :
 (Op.equalIn (d+k+1) t (.agg xs) (.agg ys)).run P w=.ok (kWa rs) w:=by
 unfold Op.equalIn;simp only[jAu,underlying,program,Sem.run,ht,jAp,jBc,hst,jAf,if_false];rw[List.forIn_toArray];have key:∀(l:List Field) (rs:List Bool),rs.length=l.length->
  (∀ (i : Nat) f r, l[i]? = some f -> rs[i]? = some r -> f.name ≠ "_" /\ ∃ x y, (∀ w, (part f.type xs f.offset).run P w = .ok x w) /\ (∀ w, (part f.type ys f.offset).run P w = .ok y w) /\ EqOkD P k f.type x y r) ->
  Sem.run P (forIn l (none,()) fun (f:Field) (_:Option Bool × Unit)=>
   if f.name ≠ "_" then do
    let a <-part f.type xs f.offset;let b <-part f.type ys f.offset;let c <-Op.equalIn (d+k) f.type a b
    if (!c)=true then pure (ForInStep.done (some false,())) else pure (ForInStep.yield (none,()))
   else pure (ForInStep.yield (none,()))) w=.ok ((if kWa rs then none else some false),()) w:=by
  intro l;induction l with
  | nil=>intro rs hl _;obtain rfl:rs=[]:=jBi (by simpa using hl);rfl
  | cons f l ih=>
   intro rs hl h;cases rs with
   | nil=>simp at hl
   | cons r rs=>
    obtain ⟨hn,x,y,h1,h2,h3⟩:=h 0 f r rfl rfl;have ih' :=ih rs (by simpa using hl) (fun i f r hf hr=>h (i+1) f r (by simpa using hf) (by simpa using hr));rw[List.forIn_cons,jAu,if_pos hn,jAu,h1,jAp,jAu,h2,jAp,jAu,h3.run,jAp];cases r with
    | false=>simp[jBc,kWa]
    | true=>
     simp only[jBg,jAf,if_false,jBc,jAp];rw[ih'];simp[kWa]
 rw[key l rs hl h];cases kWa rs <;> rfl
theorem vvb{w:World}{vs:Array Value}{off:Nat}{s1 s2:Nat}{z:Value}{d:TypeDesc}(ht:TyOk P t s1 s2 z d)(hd:dAgg d=true):(part t vs off).run P w=.ok (.agg (vs.extract off (off+s1))) w:=by
 simp only[part,jAu,ht.isAgg,jAp,hd,if_true,ht.sizeOf,jBc]
inductive vwa (P:Program):Nat->List Field->List AV->List AV->List Bool->Prop
 | nil {i:Nat}:vwa P i [] [] [] []
 | int {i : Nat} {f : Field} {fs : List Field} {a b : Int} {k kk : IntKind} {xs ys : List AV} {rs : List Bool} {s1 s2 : Nat} {z : Value} (ho : f.offset = i) (hn : f.name ≠ "_") (ht : TyOk P f.type s1 s2 z (.int kk)) (h : vwa P (i + 1) fs xs ys rs) :
  vwa P i (f::fs) (.pv (.b (.int k a))::xs) (.pv (.b (.int k b))::ys) ((a==b)::rs)
 | str {i : Nat} {f : Field} {fs : List Field} {a b : Str} {xs ys : List AV} {rs : List Bool} {s1 s2 : Nat} {z : Value} (ho : f.offset = i) (hn : f.name ≠ "_") (ht : TyOk P f.type s1 s2 z .string) (h : vwa P (i + 1) fs xs ys rs) :
  vwa P i (f::fs) (.s a::xs) (.s b::ys) ((a==b)::rs)
 | bool {i : Nat} {f : Field} {fs : List Field} {a b : Bool} {xs ys : List AV} {rs : List Bool} {s1 s2 : Nat} {z : Value} (ho : f.offset = i) (hn : f.name ≠ "_") (ht : TyOk P f.type s1 s2 z .bool) (h : vwa P (i + 1) fs xs ys rs) :
  vwa P i (f::fs) (.bo a::xs) (.bo b::ys) ((a==b)::rs)
 | st {i n : Nat} {f : Field} {fs l1 : List Field} {xs ys : List AV} {rs rs1 : List Bool} {s2 : Nat} {z : Value} (ho : f.offset = i) (hn : f.name ≠ "_") (ht : TyOk P f.type n s2 z (.struct l1.toArray)) (hx : Nat.ble n xs.length = true) (hc : VRa P f.type) (hy : Nat.ble n ys.length = true)
  (h1:wDa P 0 l1 (xs.take n) (ys.take n) rs1) (h:vwa P (i+n) fs (xs.drop n) (ys.drop n) rs):vwa P i (f::fs) xs ys (kWa rs1::rs)
theorem yCb{g:G}{C:List AV}{vs:Array Value}(h:Rel g (.agg C) (.agg vs)){i n:Nat}(hn:n<=(C.drop i).length):Rel g (.agg ((C.drop i).take n)) (.agg (vs.extract i (i+n))):=by
 cases h with
 | agg hl hc hr=>
  simp only[jCc]at hn;have hsz:(vs.extract i (i+n)).size=n:=by simp;omega
  have hget:∀q,q < n->(vs.extract i (i+n)).getD q undef=vs.getD (i+q) undef:=fun q hq=>by
   rw[jAg,jAg,Array.getElem?_extract];rw[if_pos (by omega)]
  refine .agg (by rw[hsz];simp;omega) (fun q hq=>?_) (fun q c hq=>?_)
  .rw[hsz]at hq;rw[hget q hq];exact hc _ (by omega)
  have hqn:q < n:=by have:=(jAc.1 hq).1;simp at this;omega
  rw[hget q hqn];refine hr _ _ ?_;rw[jAt hqn,jBf]at hq;exact hq
theorem Jia{g:G}{vx vy:Array Value}{CX CY:List AV}(hx:Rel g (.agg CX) (.agg vx))(hy:Rel g (.agg CY) (.agg vy)):∀{n:Nat} {l:List Field} {xs ys:List AV} {rs:List Bool},vwa P n l xs ys rs->CX.drop n=xs->CY.drop n=ys->
 rs.length = l.length /\ ∀ (i : Nat) f r, l[i]? = some f -> rs[i]? = some r -> f.name ≠ "_" /\ ∃ x y, (∀ w, (part f.type vx f.offset).run P w = .ok x w) /\ (∀ w, (part f.type vy f.offset).run P w = .ok y w) /\ EqOkD P 2 f.type x y r := by
 have hx0:=hx;have hy0:=hy;cases hx with
 | agg hxl hxc hxr=>
  cases hy with
  | agg hyl hyc hyr=>
   have step:∀{n:Nat} {cx cy:AV} {xs ys:List AV},CX.drop n=cx::xs->CY.drop n=cy::ys->CX[n]? =some cx/\CY[n]? =some cy/\CX.drop (n+1)=xs/\CY.drop (n+1)=ys/\n < vx.size/\n < vy.size:=by
    intro n cx cy xs ys h1 h2;have a1:CX[n]? =some cx:=by have:=congrArg (fun l=>l[0]?) h1;simpa using this
    have a2:CY[n]? =some cy:=by have:=congrArg (fun l=>l[0]?) h2;simpa using this
    refine ⟨a1,a2,?_,?_,by rw[hxl];exact (jAc.1 a1).1,by rw[hyl];exact (jAc.1 a2).1⟩
    .rw[<-jDm,h1];rfl
    rw[<-jDm,h2];rfl
   intro n l xs ys rs h;induction h with
   | nil=>exact fun _ _=>⟨rfl,fun i f r hf=>by simp at hf⟩
   | @int i f fs a b k kk xs ys rs s1 s2 z ho hn ht h ih=>
    intro h1 h2;obtain ⟨a1,a2,a3,a4,a5,a6⟩:=step h1 h2;obtain ⟨ih1,ih2⟩:=ih a3 a4;refine ⟨by simp[ih1],fun q f' r hf hr=>?_⟩;cases q with
    | zero=>
     simp at hf hr;subst hf;subst hr;refine ⟨hn,vx.getD i undef,vy.getD i undef,fun w=>?_,fun w=>?_,⟨fun d w=>?_⟩⟩
     .rw[ho];exact vQa ht rfl a5
     .rw[ho];exact vQa ht rfl a6
     rw[kka (hxr i _ a1),kka (hyr i _ a2)];exact (eq_int ht.u).run (d+1) w
    | succ q=>exact ih2 q f' r (by simpa using hf) (by simpa using hr)
   | @str i f fs a b xs ys rs s1 s2 z ho hn ht h ih=>
    intro h1 h2;obtain ⟨a1,a2,a3,a4,a5,a6⟩:=step h1 h2;obtain ⟨ih1,ih2⟩:=ih a3 a4;refine ⟨by simp[ih1],fun q f' r hf hr=>?_⟩;cases q with
    | zero=>
     simp at hf hr;subst hf;subst hr;refine ⟨hn,vx.getD i undef,vy.getD i undef,fun w=>?_,fun w=>?_,⟨fun d w=>?_⟩⟩
     .rw[ho];exact vQa ht rfl a5
     .rw[ho];exact vQa ht rfl a6
     rw[kka (hxr i _ a1),kka (hyr i _ a2)];exact (eq_str ht.u).run (d+1) w
    | succ q=>exact ih2 q f' r (by simpa using hf) (by simpa using hr)
   | @bool i f fs a b xs ys rs s1 s2 z ho hn ht h ih=>
    intro h1 h2;obtain ⟨a1,a2,a3,a4,a5,a6⟩:=step h1 h2;obtain ⟨ih1,ih2⟩:=ih a3 a4;refine ⟨by simp[ih1],fun q f' r hf hr=>?_⟩;cases q with
    | zero=>
     simp at hf hr;subst hf;subst hr;refine ⟨hn,vx.getD i undef,vy.getD i undef,fun w=>?_,fun w=>?_,⟨fun d w=>?_⟩⟩
     .rw[ho];exact vQa ht rfl a5
     .rw[ho];exact vQa ht rfl a6
     rw[kka (hxr i _ a1),kka (hyr i _ a2)];exact (zlb ht.u).run (d+1) w
    | succ q=>exact ih2 q f' r (by simpa using hf) (by simpa using hr)
   | @st i n f fs l1 xs ys rs rs1 s2 z ho hn ht hx hc hy h1 h ih=>
    intro e1 e2;have hx' :=jAe hx;have hy' :=jAe hy;obtain ⟨ih1,ih2⟩:=ih (by rw[<-e1,jDm]) (by rw[<-e2,jDm]);refine ⟨by simp[ih1],fun q f' r hf hr=>?_⟩;cases q with
    | zero=>
     simp at hf hr;subst hf;subst hr;subst e1;subst e2;obtain ⟨p1,p2⟩:=Q2a (yCb hx0 hx') (yCb hy0 hy') h1 rfl rfl;refine ⟨hn,_,_,fun w=>by rw[ho];exact vvb ht rfl,fun w=>by rw[ho];exact vvb ht rfl,⟨fun d w=>kmb ht.u hc.s p1 p2 d w⟩⟩
    | succ q=>exact ih2 q f' r (by simpa using hf) (by simpa using hr)
variable {ρ:Operand->AV} {σ:Sto} {dst:Option Nat} {ty:TypeId} {pos:String} {af:Array Edge} {gu:Option (Nat × Bool)} {x y:Operand} {ss sb:Nat} {sz:Value}
theorem V6a{g:G}{vx vy:Value}{CX CY:List AV}{l:List Field}{rs:List Bool}(hx:Rel g (.agg CX) vx)(hy:Rel g (.agg CY) vy)(ht:P.underlying t=some (.struct l.toArray))(hc:VRa P t)(h:vwa P 0 l CX CY rs)(w:World):
 (Op.equal t vx vy).run P w=.ok (kWa rs) w/\∃a b,vx=.agg a/\vy=.agg b:=by
 cases hx with
 | agg h1 h2 h3=>
  cases hy with
  | agg k1 k2 k3=>
   obtain ⟨e1,e2⟩:=Jia (.agg h1 h2 h3) (.agg k1 k2 k3) h rfl rfl;exact ⟨wkb ht hc.s e1 e2 9997 w,_,_,rfl,rfl⟩
theorem kJb{CX CY:List AV}{l:List Field}{rs:List Bool}{t' :TypeId}(hx:ρ x=.agg CX)(hy:ρ y=.agg CY)(ht:TyOk P t ss sb sz (.struct l.toArray))(hc:VRa P t)(h:vwa P 0 l CX CY rs):
 EvQ P ⟨dst,.binOp .neq t x y t',ty,pos,af,gu⟩ ρ σ (.bo (!kWa rs)):=
 ⟨fun c=>by simp,fun g ρv hh _=>by
  obtain ⟨h1,h2⟩:=ops2 (o:=⟨dst,.binOp .neq t x y t',ty,pos,af,gu⟩) (x:=x) (y:=y) rfl hh;rw[hx]at h1;rw[hy]at h2;obtain ⟨he,a,b,ea,eb⟩:=V6a h1 h2 ht.u hc h g.w;refine ⟨.bool (!kWa rs),?_,.pv (.b rfl)⟩;show Sem.run P (do let v <-(do eqGuard .neq t x y (ρv x) (ρv y);binOp .neq t (ρv x) (ρv y));pure (Next.value v)) g.w=_;rw[ea,eb]at he ⊢;simp[eqGuard,binOp,jAu,he,jBc,program,Sem.run,hc.g]⟩
end
end
section
variable {E:Env} {fr:Fr} {σ:Sto} {K:Post} {k:KS} {ops:Array Oper} {T:Tab} {c:AV} {t ty:TypeId} {pos:String} {af:Array Edge} {row:Yfa}
theorem kKb(m:Nat):∀(k i:Nat),kyb m [] k i=[(List.range' i k).map fun j=> !(Nat.ble m j)]
 | 0,i=>rfl
 | k+1,i=>by
  unfold kyb;rw[kKb m k (i+1),List.range'_succ];cases h:Nat.ble m i <;> simp[h]
theorem kLb:∀(cs:List AV) (bs:List Bool),cs.length<=bs.length->(bs.take cs.length).all id=true->kAb cs bs=cs
 | [],bs,_,_=>by cases bs <;> rfl
 | c::cs,[],h,_=>by simp at h
 | c::cs,b::bs,h,hb=>by
  simp at h hb;unfold kAb;rw[kLb cs bs (by omega) (by simpa using hb.2),hb.1];rfl
theorem drX0{id:Nat}{l:List Oper}(m:Nat)(new:Fr){cs:List AV}{az:ObX}{σ' :Sto}(hmix:E.P.follows .mixedOrders=true)(hok:VXa l m m []=true)(hm:Nat.ble m l.length=true)(hN:((l.take m).all fun o=>o.dst.all fun d=>Nat.ble (d+1) E.N)=true)
 (hT:kYa E.P []) (hp:yEa E l.toArray (new++fr) σ (l.take m) cs az) (hfree:wbb fr σ cs az=true) (hσ:objX (fun _=>true) 0 az++σ=σ') (hnew:ZJa (l.take m) cs []=new) (h:AWPL E l.toArray (l.drop m) (new++fr) σ' K):AWP E (.region id l.toArray true) fr σ K:=by
 have hm' :=jAe hm;have hlen:cs.length=m:=by rw[hp.len.1,jBz];omega
 have hl:Yla [] E.N l m m [] 1 cs fr σ' =some [(new++fr,σ')]:=by
  unfold Yla;rw[kKb];have hall:List.all (List.take m ((List.range' 0 l.length).map fun j=> !(Nat.ble m j))) _root_.id=true:=by
   rw[jAx];intro x hx;obtain ⟨i,hi,rfl⟩:=List.mem_iff_getElem.1 hx;simp at hi;cases hb:Nat.ble m i with
   | true=>have:=jAe hb;omega
   | false=>simp[hb]
  have hmask:=kLb cs ((List.range' 0 l.length).map fun j=> !(Nat.ble m j)) (by simp;omega) (by rw[hlen];exact hall);have ht:Yka [] E.N l m 1 ((List.range' 0 l.length).map fun j=> !(Nat.ble m j)) (ZJa (l.take m) (kAb cs ((List.range' 0 l.length).map fun j=> !(Nat.ble m j))) []++fr) σ' =some [(new++fr,σ')]:=by
   rw[hmask,hnew];unfold Yka;rw[hall]
  unfold qDb;dsimp only;rw[ht];rfl
 exact JSa m m 1 [] new (new++fr) σ' hT hmix hok (Nat.ble_eq_true_of_le (jBb _)) hm rfl hN hp hfree hσ hnew hl (fun p hp=>by
  rw[jCe.1 hp];exact ⟨q1a,kRa⟩) h
theorem drA{id:Nat}{l:List Oper}(m:Nat)(new:Fr){cs:List AV}{az:ObX}{σ' :Sto}(hmix:E.P.follows .mixedOrders=true)(hok:VXa l m m []=true)(hm:Nat.ble m l.length=true)(hN:((l.take m).all fun o=>o.dst.all fun d=>Nat.ble (d+1) E.N)=true)
 (hp:yEa E l.toArray (new++fr) σ (l.take m) cs az) (hfree:wbb fr σ cs az=true) (hσ:objX (fun _=>true) 0 az++σ=σ') (hnew:ZJa (l.take m) cs []=new) (h:(GS.ops l.toArray (l.drop m) (new++fr) σ' k).holds E):(GS.code (.region id l.toArray true) fr σ k).holds E:=
 drX0 m new hmix hok hm hN (fun t r h=>by cases h) hp hfree hσ hnew h
theorem yDb:∀(az:ObX) (n:Nat),(az.all fun x=>x.isNone)=true->idX az=[]/\objX (fun _=>true) n az=[]
 | [],_,_=>⟨rfl,rfl⟩
 | none::az,n,h=>yDb az (n+1) (by simpa using h)
 | some x::az,n,h=>by simp at h
theorem dr{id:Nat}{l:List Oper}(m:Nat)(new:Fr){cs:List AV}{az:ObX}(hmix:E.P.follows .mixedOrders=true)(hok:VXa l m m []=true)(hm:Nat.ble m l.length=true)(hN:((l.take m).all fun o=>o.dst.all fun d=>Nat.ble (d+1) E.N)=true)
 (hp:yEa E l.toArray (new++fr) σ (l.take m) cs az) (hnew:ZJa (l.take m) cs []=new) (h:(GS.ops l.toArray (l.drop m) (new++fr) σ k).holds E) (hz:(az.all fun x=>x.isNone)=true:=by rfl):(GS.code (.region id l.toArray true) fr σ k).holds E:=by
 obtain ⟨h1,h2⟩:=yDb az 0 hz;refine drX0 m new hmix hok hm hN (fun t r h=>by cases h) hp ?_ (by rw[h2];rfl) hnew h;unfold wbb;rw[h1];simp[zrb];intro x hx;cases x <;> simp
theorem pqA{o:Oper}{l:List Oper}{cs:List AV}{az:ObX}(hT:kYa E.P T)(hq:qval T fr.ev σ o.op=some c)(hg:qUa ops fr o)(hr:yEa E ops fr σ l cs az):yEa E ops fr σ (o::l) (c::cs) (none::az):=pqX hT hq hg hr
theorem pq{o:Oper}{l:List Oper}{cs:List AV}{az:ObX}(hT:kYa E.P T)(hq:qval T fr.ev σ o.op=some c)(hg:qUa ops fr o)(hr:yEa E ops fr σ l cs az):yEa E ops fr σ (o::l) (c::cs) (none::az):=pqX hT hq hg hr
theorem pnA{d:Nat}{gu:Option (Nat × Bool)}{l:List Oper}{cs ds:List AV}{az:ObX}(id:Nat)(hT:kYa E.P T)(ht:T.get t=some row)(hz:y5a (row.zero.cells.toList.map vVa)=some ds)(hz2:row.zero.cells.toList.all cellV=true)(hg:qUa ops fr ⟨some d,.alloc t,ty,pos,af,gu⟩)(hr:yEa E ops fr σ l cs az):yEa E ops fr σ (⟨some d,.alloc t,ty,pos,af,gu⟩::l) (.ptr id 0::cs) (some (id,.cells ds)::az):=pnX id hT ht hz hz2 hg hr
end
theorem mixed:prog.follows .mixedOrders=true:=by kernel_rfl
theorem qFa:VRa prog 37:=⟨by kernel_rfl,by kernel_rfl⟩
theorem zIb:VRa prog 80:=⟨by kernel_rfl,by kernel_rfl⟩
theorem Yta:VRa prog 71:=⟨by kernel_rfl,by kernel_rfl⟩
theorem wja:VRa prog 78:=⟨by kernel_rfl,by kernel_rfl⟩
theorem Yua:VRa prog 100:=⟨by kernel_rfl,by kernel_rfl⟩
theorem ZOa:VRa prog 141:=⟨by kernel_rfl,by kernel_rfl⟩
theorem Jja (w : World) : Sem.run prog (Array.mapM (fun (f : Field) => do pure (f.offset, <- sizeOf f.type)) #[⟨"Entry", 3, 0, false, "", "", 0⟩, ⟨"Domain", 9, 1, false, "", "", 8⟩, ⟨"To", 31, 2, false, "", "", 24⟩]) w = .ok #[(0, 1), (1, 1), (2, 1)] w := by kernel_rfl
theorem kMb (w : World) : Sem.run prog (Array.mapM (fun (f : Field) => do pure (f.offset, <- sizeOf f.type)) #[⟨"Id", 3, 0, false, "", "", 0⟩, ⟨"Mail", 30, 1, false, "", "", 8⟩, ⟨"Since", 3, 6, false, "", "", 112⟩, ⟨"Tries", 3, 7, false, "", "", 120⟩, ⟨"Due", 3, 8, false, "", "", 128⟩, ⟨"To", 95, 9, false, "", "", 136⟩]) w = .ok #[(0, 1), (1, 5), (6, 1), (7, 1), (8, 1), (9, 1)] w := by kernel_rfl
theorem Yva (w : World) : Sem.run prog (Array.mapM (fun (f : Field) => do pure (f.offset, <- sizeOf f.type)) #[⟨"From", 9, 0, false, "", "", 0⟩, ⟨"To", 23, 1, false, "", "", 16⟩, ⟨"Id", 9, 2, false, "", "", 40⟩]) w = .ok #[(0, 1), (1, 1), (2, 1)] w := by kernel_rfl
theorem kNb (w : World) : Sem.run prog (Array.mapM (fun (f : Field) => do pure (f.offset, <- sizeOf f.type)) #[⟨"Code", 3, 0, false, "", "", 0⟩, ⟨"Index", 3, 1, false, "", "", 8⟩]) w = .ok #[(0, 1), (1, 1)] w := by kernel_rfl
theorem kOb (w : World) : Sem.run prog (Array.mapM (fun (f : Field) => do pure (f.offset, <- sizeOf f.type)) #[⟨"Name", 9, 0, false, "", "", 0⟩, ⟨"Value", 9, 1, false, "", "", 16⟩]) w = .ok #[(0, 1), (1, 1)] w := by kernel_rfl
theorem qLb (w : World) : Sem.run prog (Array.mapM (fun (f : Field) => do pure (f.offset, <- sizeOf f.type)) #[⟨"Envelope", 25, 0, false, "", "", 0⟩, ⟨"Message", 28, 3, false, "", "", 56⟩]) w = .ok #[(0, 3), (3, 2)] w := by kernel_rfl
theorem Jka (w : World) : Sem.run prog (Array.mapM (fun (f : Field) => do pure (f.offset, <- sizeOf f.type)) #[⟨"Fields", 26, 0, false, "", "", 0⟩, ⟨"Body", 22, 1, false, "", "", 24⟩]) w = .ok #[(0, 1), (1, 1)] w := by kernel_rfl
theorem Jla (w : World) : Sem.run prog (Array.mapM (fun (f : Field) => do pure (f.offset, <- sizeOf f.type)) #[⟨"Entry", 3, 0, false, "", "", 0⟩, ⟨"Number", 3, 1, false, "", "", 8⟩, ⟨"Result", 3, 2, false, "", "", 16⟩]) w = .ok #[(0, 1), (1, 1), (2, 1)] w := by kernel_rfl
theorem kPb (w : World) : Sem.run prog (Array.mapM (fun (f : Field) => do pure (f.offset, <- sizeOf f.type)) #[⟨"Entries", 52, 0, false, "", "", 0⟩, ⟨"Next", 3, 1, false, "", "", 24⟩]) w = .ok #[(0, 1), (1, 1)] w := by kernel_rfl
theorem WGa (w : World) : Sem.run prog (Array.mapM (fun (f : Field) => do pure (f.offset, <- sizeOf f.type)) #[⟨"Address", 9, 0, false, "", "", 0⟩, ⟨"Notify", 3, 1, false, "", "", 16⟩]) w = .ok #[(0, 1), (1, 1)] w := by kernel_rfl
theorem zJb (w : World) : Sem.run prog (Array.mapM (fun (f : Field) => do pure (f.offset, <- sizeOf f.type)) #[⟨"Kind", 3, 0, false, "", "", 0⟩, ⟨"Now", 3, 1, false, "", "", 8⟩, ⟨"Mail", 30, 2, false, "", "", 16⟩, ⟨"Attempt", 33, 7, false, "", "", 120⟩, ⟨"Results", 31, 10, false, "", "", 168⟩]) w = .ok #[(0, 1), (1, 1), (2, 5), (7, 3), (10, 1)] w := by kernel_rfl
theorem Jma (w : World) : Sem.run prog (Array.mapM (fun (f : Field) => do pure (f.offset, <- sizeOf f.type)) #[⟨"Recipient", 78, 0, false, "", "", 0⟩, ⟨"Result", 3, 2, false, "", "", 24⟩, ⟨"Busy", 4, 3, false, "", "", 32⟩]) w = .ok #[(0, 2), (2, 1), (3, 1)] w := by kernel_rfl
theorem ZPa (w : World) : Sem.run prog (Array.mapM (fun (f : Field) => do pure (f.offset, <- sizeOf f.type)) #[⟨"b", 22, 0, false, "", "posthouse/posthouseref4", 0⟩, ⟨"bad", 4, 1, false, "", "posthouse/posthouseref4", 24⟩]) w = .ok #[(0, 1), (1, 1)] w := by kernel_rfl
theorem kQb (w : World) : Sem.run prog (Array.mapM (fun (f : Field) => do pure (f.offset, <- sizeOf f.type)) #[⟨"entry", 3, 0, false, "", "posthouse/queue", 0⟩, ⟨"domain", 9, 1, false, "", "posthouse/queue", 8⟩]) w = .ok #[(0, 1), (1, 1)] w := by kernel_rfl
theorem Ywa (w : World) : Sem.run prog (Array.mapM (fun (f : Field) => do pure (f.offset, <- sizeOf f.type)) #[⟨"b", 22, 0, false, "", "posthouse/spool", 0⟩, ⟨"bad", 4, 1, false, "", "posthouse/spool", 24⟩]) w = .ok #[(0, 1), (1, 1)] w := by kernel_rfl
theorem Yxa (w : World) : Sem.run prog (Array.mapM (fun (f : Field) => do pure (f.offset, <- sizeOf f.type)) #[⟨"out", 22, 0, false, "", "posthouse/spool", 0⟩]) w = .ok #[(0, 1)] w := by kernel_rfl
theorem ywa : TyOk prog 33 3 48 (.agg #[.int .i64 0, .string ⟨#[]⟩, .slice none 0 0]) (.struct #[⟨"Entry", 3, 0, false, "", "", 0⟩, ⟨"Domain", 9, 1, false, "", "", 8⟩, ⟨"To", 31, 2, false, "", "", 24⟩]) := ⟨by kernel_rfl, by kernel_rfl⟩
theorem zma : TyOk prog 97 10 160 (.agg #[.int .i64 0, .string ⟨#[]⟩, .slice none 0 0, .string ⟨#[]⟩, .slice none 0 0, .slice none 0 0, .int .i64 0, .int .i64 0, .int .i64 0, .slice none 0 0]) (.struct #[⟨"Id", 3, 0, false, "", "", 0⟩, ⟨"Mail", 30, 1, false, "", "", 8⟩, ⟨"Since", 3, 6, false, "", "", 112⟩, ⟨"Tries", 3, 7, false, "", "", 120⟩, ⟨"Due", 3, 8, false, "", "", 128⟩, ⟨"To", 95, 9, false, "", "", 136⟩]) := ⟨by kernel_rfl, by kernel_rfl⟩
theorem Kza : TyOk prog 25 3 56 (.agg #[.string ⟨#[]⟩, .slice none 0 0, .string ⟨#[]⟩]) (.struct #[⟨"From", 9, 0, false, "", "", 0⟩, ⟨"To", 23, 1, false, "", "", 16⟩, ⟨"Id", 9, 2, false, "", "", 40⟩]) := ⟨by kernel_rfl, by kernel_rfl⟩
theorem qGa : TyOk prog 37 2 16 (.agg #[.int .i64 0, .int .i64 0]) (.struct #[⟨"Code", 3, 0, false, "", "", 0⟩, ⟨"Index", 3, 1, false, "", "", 8⟩]) := ⟨by kernel_rfl, by kernel_rfl⟩
theorem qka : TyOk prog 80 2 32 (.agg #[.string ⟨#[]⟩, .string ⟨#[]⟩]) (.struct #[⟨"Name", 9, 0, false, "", "", 0⟩, ⟨"Value", 9, 1, false, "", "", 16⟩]) := ⟨by kernel_rfl, by kernel_rfl⟩
theorem kMa : TyOk prog 30 5 104 (.agg #[.string ⟨#[]⟩, .slice none 0 0, .string ⟨#[]⟩, .slice none 0 0, .slice none 0 0]) (.struct #[⟨"Envelope", 25, 0, false, "", "", 0⟩, ⟨"Message", 28, 3, false, "", "", 56⟩]) := ⟨by kernel_rfl, by kernel_rfl⟩
theorem qOa : TyOk prog 28 2 48 (.agg #[.slice none 0 0, .slice none 0 0]) (.struct #[⟨"Fields", 26, 0, false, "", "", 0⟩, ⟨"Body", 22, 1, false, "", "", 24⟩]) := ⟨by kernel_rfl, by kernel_rfl⟩
theorem vEa : TyOk prog 71 3 24 (.agg #[.int .i64 0, .int .i64 0, .int .i64 0]) (.struct #[⟨"Entry", 3, 0, false, "", "", 0⟩, ⟨"Number", 3, 1, false, "", "", 8⟩, ⟨"Result", 3, 2, false, "", "", 16⟩]) := ⟨by kernel_rfl, by kernel_rfl⟩
theorem yJa : TyOk prog 54 2 32 (.agg #[.slice none 0 0, .int .i64 0]) (.struct #[⟨"Entries", 52, 0, false, "", "", 0⟩, ⟨"Next", 3, 1, false, "", "", 24⟩]) := ⟨by kernel_rfl, by kernel_rfl⟩
theorem zNa : TyOk prog 78 2 24 (.agg #[.string ⟨#[]⟩, .int .i64 0]) (.struct #[⟨"Address", 9, 0, false, "", "", 0⟩, ⟨"Notify", 3, 1, false, "", "", 16⟩]) := ⟨by kernel_rfl, by kernel_rfl⟩
theorem kxa : TyOk prog 35 11 192 (.agg #[.int .i64 0, .int .i64 0, .string ⟨#[]⟩, .slice none 0 0, .string ⟨#[]⟩, .slice none 0 0, .slice none 0 0, .int .i64 0, .string ⟨#[]⟩, .slice none 0 0, .slice none 0 0]) (.struct #[⟨"Kind", 3, 0, false, "", "", 0⟩, ⟨"Now", 3, 1, false, "", "", 8⟩, ⟨"Mail", 30, 2, false, "", "", 16⟩, ⟨"Attempt", 33, 7, false, "", "", 120⟩, ⟨"Results", 31, 10, false, "", "", 168⟩]) := ⟨by kernel_rfl, by kernel_rfl⟩
theorem zOa : TyOk prog 100 4 40 (.agg #[.string ⟨#[]⟩, .int .i64 0, .int .i64 0, .bool false]) (.struct #[⟨"Recipient", 78, 0, false, "", "", 0⟩, ⟨"Result", 3, 2, false, "", "", 24⟩, ⟨"Busy", 4, 3, false, "", "", 32⟩]) := ⟨by kernel_rfl, by kernel_rfl⟩
theorem yYa:TyOk prog 4 1 1 (.bool false) .bool:=⟨by kernel_rfl,by kernel_rfl⟩
theorem zVa:TyOk prog 3 1 8 (.int .i64 0) (.int .i64):=⟨by kernel_rfl,by kernel_rfl⟩
theorem ty_int32:TyOk prog 21 1 4 (.int .i32 0) (.int .i32):=⟨by kernel_rfl,by kernel_rfl⟩
theorem qHa:TyOk prog 137 1 8 (.map none) (.map 141 4):=⟨by kernel_rfl,by kernel_rfl⟩
theorem wka:TyOk prog 136 1 8 (.map none) (.map 9 3):=⟨by kernel_rfl,by kernel_rfl⟩
theorem V7a:TyOk prog 112 1 8 (.pointer none) (.pointer 114):=⟨by kernel_rfl,by kernel_rfl⟩
theorem V8a:TyOk prog 103 1 8 (.pointer none) (.pointer 105):=⟨by kernel_rfl,by kernel_rfl⟩
theorem ZQa : TyOk prog 121 2 32 (.agg #[.slice none 0 0, .bool false]) (.struct #[⟨"b", 22, 0, false, "", "posthouse/posthouseref4", 0⟩, ⟨"bad", 4, 1, false, "", "posthouse/posthouseref4", 24⟩]) := ⟨by kernel_rfl, by kernel_rfl⟩
theorem jUa : TyOk prog 141 2 24 (.agg #[.int .i64 0, .string ⟨#[]⟩]) (.struct #[⟨"entry", 3, 0, false, "", "posthouse/queue", 0⟩, ⟨"domain", 9, 1, false, "", "posthouse/queue", 8⟩]) := ⟨by kernel_rfl, by kernel_rfl⟩
theorem zta:TyOk prog 52 1 24 (.slice none 0 0) (.slice 97):=⟨by kernel_rfl,by kernel_rfl⟩
theorem k9a:TyOk prog 26 1 24 (.slice none 0 0) (.slice 80):=⟨by kernel_rfl,by kernel_rfl⟩
theorem vxa:TyOk prog 55 1 24 (.slice none 0 0) (.slice 71):=⟨by kernel_rfl,by kernel_rfl⟩
theorem zYa:TyOk prog 23 1 24 (.slice none 0 0) (.slice 78):=⟨by kernel_rfl,by kernel_rfl⟩
theorem kja:TyOk prog 45 1 24 (.slice none 0 0) (.slice 35):=⟨by kernel_rfl,by kernel_rfl⟩
theorem zna:TyOk prog 95 1 24 (.slice none 0 0) (.slice 100):=⟨by kernel_rfl,by kernel_rfl⟩
theorem jVa:TyOk prog 31 1 24 (.slice none 0 0) (.slice 3):=⟨by kernel_rfl,by kernel_rfl⟩
theorem kRb:TyOk prog 102 1 24 (.slice none 0 0) (.slice 22):=⟨by kernel_rfl,by kernel_rfl⟩
theorem Yya:TyOk prog 108 1 24 (.slice none 0 0) (.slice 9):=⟨by kernel_rfl,by kernel_rfl⟩
theorem zqa:TyOk prog 22 1 24 (.slice none 0 0) (.slice 5):=⟨by kernel_rfl,by kernel_rfl⟩
theorem Yza : TyOk prog 114 2 32 (.agg #[.slice none 0 0, .bool false]) (.struct #[⟨"b", 22, 0, false, "", "posthouse/spool", 0⟩, ⟨"bad", 4, 1, false, "", "posthouse/spool", 24⟩]) := ⟨by kernel_rfl, by kernel_rfl⟩
theorem YAa : TyOk prog 105 1 24 (.agg #[.slice none 0 0]) (.struct #[⟨"out", 22, 0, false, "", "posthouse/spool", 0⟩]) := ⟨by kernel_rfl, by kernel_rfl⟩
theorem kaa:TyOk prog 9 1 16 (.string ⟨#[]⟩) .string:=⟨by kernel_rfl,by kernel_rfl⟩
theorem yEb:TyOk prog 189 1 8 (.int .u64 0) (.int .u64):=⟨by kernel_rfl,by kernel_rfl⟩
theorem kKa:TyOk prog 82 1 8 (.int .u64 0) (.int .u64):=⟨by kernel_rfl,by kernel_rfl⟩
theorem zRa:TyOk prog 5 1 1 (.int .u8 0) (.int .u8):=⟨by kernel_rfl,by kernel_rfl⟩
def tab : Tab := [(33, ⟨3, 48, (.agg #[.int .i64 0, .string ⟨#[]⟩, .slice none 0 0]), (.struct #[⟨"Entry", 3, 0, false, "", "", 0⟩, ⟨"Domain", 9, 1, false, "", "", 8⟩, ⟨"To", 31, 2, false, "", "", 24⟩]), (some #[(0, 1), (1, 1), (2, 1)])⟩), (97, ⟨10, 160, (.agg #[.int .i64 0, .string ⟨#[]⟩, .slice none 0 0, .string ⟨#[]⟩, .slice none 0 0, .slice none 0 0, .int .i64 0, .int .i64 0, .int .i64 0, .slice none 0 0]), (.struct #[⟨"Id", 3, 0, false, "", "", 0⟩, ⟨"Mail", 30, 1, false, "", "", 8⟩, ⟨"Since", 3, 6, false, "", "", 112⟩, ⟨"Tries", 3, 7, false, "", "", 120⟩, ⟨"Due", 3, 8, false, "", "", 128⟩, ⟨"To", 95, 9, false, "", "", 136⟩]), (some #[(0, 1), (1, 5), (6, 1), (7, 1), (8, 1), (9, 1)])⟩), (25, ⟨3, 56, (.agg #[.string ⟨#[]⟩, .slice none 0 0, .string ⟨#[]⟩]), (.struct #[⟨"From", 9, 0, false, "", "", 0⟩, ⟨"To", 23, 1, false, "", "", 16⟩, ⟨"Id", 9, 2, false, "", "", 40⟩]), (some #[(0, 1), (1, 1), (2, 1)])⟩), (37, ⟨2, 16, (.agg #[.int .i64 0, .int .i64 0]), (.struct #[⟨"Code", 3, 0, false, "", "", 0⟩, ⟨"Index", 3, 1, false, "", "", 8⟩]), (some #[(0, 1), (1, 1)])⟩), (80, ⟨2, 32, (.agg #[.string ⟨#[]⟩, .string ⟨#[]⟩]), (.struct #[⟨"Name", 9, 0, false, "", "", 0⟩, ⟨"Value", 9, 1, false, "", "", 16⟩]), (some #[(0, 1), (1, 1)])⟩), (30, ⟨5, 104, (.agg #[.string ⟨#[]⟩, .slice none 0 0, .string ⟨#[]⟩, .slice none 0 0, .slice none 0 0]), (.struct #[⟨"Envelope", 25, 0, false, "", "", 0⟩, ⟨"Message", 28, 3, false, "", "", 56⟩]), (some #[(0, 3), (3, 2)])⟩), (28, ⟨2, 48, (.agg #[.slice none 0 0, .slice none 0 0]), (.struct #[⟨"Fields", 26, 0, false, "", "", 0⟩, ⟨"Body", 22, 1, false, "", "", 24⟩]), (some #[(0, 1), (1, 1)])⟩), (71, ⟨3, 24, (.agg #[.int .i64 0, .int .i64 0, .int .i64 0]), (.struct #[⟨"Entry", 3, 0, false, "", "", 0⟩, ⟨"Number", 3, 1, false, "", "", 8⟩, ⟨"Result", 3, 2, false, "", "", 16⟩]), (some #[(0, 1), (1, 1), (2, 1)])⟩), (54, ⟨2, 32, (.agg #[.slice none 0 0, .int .i64 0]), (.struct #[⟨"Entries", 52, 0, false, "", "", 0⟩, ⟨"Next", 3, 1, false, "", "", 24⟩]), (some #[(0, 1), (1, 1)])⟩), (78, ⟨2, 24, (.agg #[.string ⟨#[]⟩, .int .i64 0]), (.struct #[⟨"Address", 9, 0, false, "", "", 0⟩, ⟨"Notify", 3, 1, false, "", "", 16⟩]), (some #[(0, 1), (1, 1)])⟩), (35, ⟨11, 192, (.agg #[.int .i64 0, .int .i64 0, .string ⟨#[]⟩, .slice none 0 0, .string ⟨#[]⟩, .slice none 0 0, .slice none 0 0, .int .i64 0, .string ⟨#[]⟩, .slice none 0 0, .slice none 0 0]), (.struct #[⟨"Kind", 3, 0, false, "", "", 0⟩, ⟨"Now", 3, 1, false, "", "", 8⟩, ⟨"Mail", 30, 2, false, "", "", 16⟩, ⟨"Attempt", 33, 7, false, "", "", 120⟩, ⟨"Results", 31, 10, false, "", "", 168⟩]), (some #[(0, 1), (1, 1), (2, 5), (7, 3), (10, 1)])⟩), (100, ⟨4, 40, (.agg #[.string ⟨#[]⟩, .int .i64 0, .int .i64 0, .bool false]), (.struct #[⟨"Recipient", 78, 0, false, "", "", 0⟩, ⟨"Result", 3, 2, false, "", "", 24⟩, ⟨"Busy", 4, 3, false, "", "", 32⟩]), (some #[(0, 2), (2, 1), (3, 1)])⟩), (4, ⟨1, 1, (.bool false), .bool, none⟩), (3, ⟨1, 8, (.int .i64 0), (.int .i64), none⟩), (21, ⟨1, 4, (.int .i32 0), (.int .i32), none⟩), (137, ⟨1, 8, (.map none), (.map 141 4), none⟩), (136, ⟨1, 8, (.map none), (.map 9 3), none⟩), (112, ⟨1, 8, (.pointer none), (.pointer 114), none⟩), (103, ⟨1, 8, (.pointer none), (.pointer 105), none⟩), (121, ⟨2, 32, (.agg #[.slice none 0 0, .bool false]), (.struct #[⟨"b", 22, 0, false, "", "posthouse/posthouseref4", 0⟩, ⟨"bad", 4, 1, false, "", "posthouse/posthouseref4", 24⟩]), (some #[(0, 1), (1, 1)])⟩), (141, ⟨2, 24, (.agg #[.int .i64 0, .string ⟨#[]⟩]), (.struct #[⟨"entry", 3, 0, false, "", "posthouse/queue", 0⟩, ⟨"domain", 9, 1, false, "", "posthouse/queue", 8⟩]), (some #[(0, 1), (1, 1)])⟩), (52, ⟨1, 24, (.slice none 0 0), (.slice 97), none⟩), (26, ⟨1, 24, (.slice none 0 0), (.slice 80), none⟩), (55, ⟨1, 24, (.slice none 0 0), (.slice 71), none⟩), (23, ⟨1, 24, (.slice none 0 0), (.slice 78), none⟩), (45, ⟨1, 24, (.slice none 0 0), (.slice 35), none⟩), (95, ⟨1, 24, (.slice none 0 0), (.slice 100), none⟩), (31, ⟨1, 24, (.slice none 0 0), (.slice 3), none⟩), (102, ⟨1, 24, (.slice none 0 0), (.slice 22), none⟩), (108, ⟨1, 24, (.slice none 0 0), (.slice 9), none⟩), (22, ⟨1, 24, (.slice none 0 0), (.slice 5), none⟩), (114, ⟨2, 32, (.agg #[.slice none 0 0, .bool false]), (.struct #[⟨"b", 22, 0, false, "", "posthouse/spool", 0⟩, ⟨"bad", 4, 1, false, "", "posthouse/spool", 24⟩]), (some #[(0, 1), (1, 1)])⟩), (105, ⟨1, 24, (.agg #[.slice none 0 0]), (.struct #[⟨"out", 22, 0, false, "", "posthouse/spool", 0⟩]), (some #[(0, 1)])⟩), (9, ⟨1, 16, (.string ⟨#[]⟩), .string, none⟩), (189, ⟨1, 8, (.int .u64 0), (.int .u64), none⟩), (82, ⟨1, 8, (.int .u64 0), (.int .u64), none⟩), (5, ⟨1, 1, (.int .u8 0), (.int .u8), none⟩)]
theorem tk:kYa prog tab:=(qha ywa Jja (qha zma kMb (qha Kza Yva (qha qGa kNb (qha qka kOb (qha kMa qLb (qha qOa Jka (qha vEa Jla (qha yJa kPb (qha zNa WGa (qha kxa zJb (qha zOa Jma (k8a yYa (k8a zVa (k8a ty_int32 (k8a qHa (k8a wka (k8a V7a (k8a V8a (qha ZQa ZPa (qha jUa kQb (k8a zta (k8a k9a (k8a vxa (k8a zYa (k8a kja (k8a zna (k8a jVa (k8a kRb (k8a Yya (k8a zqa (qha Yza Ywa (qha YAa Yxa (k8a kaa (k8a yEb (k8a kKa (k8a zRa tab_nil)))))))))))))))))))))))))))))))))))))
def zpa.ok(x:zpa):Prop:=ok64 x.Code/\ok64 x.Index
def zpa.bk(x:zpa):Nat:=(fun _=>1) x.Code+(fun _=>1) x.Index+1
instance:Inhabited zpa:=⟨⟨default,default⟩⟩
def jTa.ok(x:jTa):Prop:=Jga x.Address/\(okL Jga) x.To
def jTa.bk(x:jTa):Nat:=(fun s=>s.length+1) x.Address+(bkL (fun s=>s.length+1)) x.To+1
instance:Inhabited jTa:=⟨⟨default,default⟩⟩
def zca.ok(x:zca):Prop:=Jga x.Address/\ok64 x.Notify
def zca.bk(x:zca):Nat:=(fun s=>s.length+1) x.Address+(fun _=>1) x.Notify+1
instance:Inhabited zca:=⟨⟨default,default⟩⟩
def zGa.ok(x:zGa):Prop:=Jga x.From/\(okL zca.ok) x.To/\Jga x.Id
def zGa.bk(x:zGa):Nat:=(fun s=>s.length+1) x.From+(bkL zca.bk) x.To+(fun s=>s.length+1) x.Id+1
instance:Inhabited zGa:=⟨⟨default,default,default⟩⟩
def zja.ok(x:zja):Prop:=Jga x.Name/\Jga x.Value
def zja.bk(x:zja):Nat:=(fun s=>s.length+1) x.Name+(fun s=>s.length+1) x.Value+1
instance:Inhabited zja:=⟨⟨default,default⟩⟩
def zya.ok(x:zya):Prop:=(okL zja.ok) x.Fields/\(okL (fun _=>True)) x.Body
def zya.bk(x:zya):Nat:=(bkL zja.bk) x.Fields+(bkL (fun _=>1)) x.Body+1
instance:Inhabited zya:=⟨⟨default,default⟩⟩
def kia.ok(x:kia):Prop:=zGa.ok x.Envelope/\zya.ok x.Message
def kia.bk(x:kia):Nat:=zGa.bk x.Envelope+zya.bk x.Message+1
instance:Inhabited kia:=⟨⟨default,default⟩⟩
def zea.ok(x:zea):Prop:=zca.ok x.Recipient/\ok64 x.Result/\(fun _=>True) x.Busy
def zea.bk(x:zea):Nat:=zca.bk x.Recipient+(fun _=>1) x.Result+(fun _=>1) x.Busy+1
instance:Inhabited zea:=⟨⟨default,default,default⟩⟩
def zba.ok(x:zba):Prop:=ok64 x.Id/\kia.ok x.Mail/\ok64 x.Since/\ok64 x.Tries/\ok64 x.Due/\(okL zea.ok) x.To
def zba.bk(x:zba):Nat:=(fun _=>1) x.Id+kia.bk x.Mail+(fun _=>1) x.Since+(fun _=>1) x.Tries+(fun _=>1) x.Due+(bkL zea.bk) x.To+1
instance:Inhabited zba:=⟨⟨default,default,default,default,default,default⟩⟩
def zra.ok(x:zra):Prop:=(okL zba.ok) x.Entries/\ok64 x.Next
def zra.bk(x:zra):Nat:=(bkL zba.bk) x.Entries+(fun _=>1) x.Next+1
instance:Inhabited zra:=⟨⟨default,default⟩⟩
def zxa.ok(x:zxa):Prop:=ok64 x.Entry/\Jga x.Domain/\(okL ok64) x.To
def zxa.bk(x:zxa):Nat:=(fun _=>1) x.Entry+(fun s=>s.length+1) x.Domain+(bkL (fun _=>1)) x.To+1
instance:Inhabited zxa:=⟨⟨default,default,default⟩⟩
def zfa.ok(x:zfa):Prop:=ok64 x.Entry/\ok64 x.Number/\ok64 x.Result
def zfa.bk(x:zfa):Nat:=(fun _=>1) x.Entry+(fun _=>1) x.Number+(fun _=>1) x.Result+1
instance:Inhabited zfa:=⟨⟨default,default,default⟩⟩
def zha.ok(x:zha):Prop:=ok64 x.Kind/\ok64 x.Now/\kia.ok x.Mail/\zxa.ok x.Attempt/\(okL ok64) x.Results
def zha.bk(x:zha):Nat:=(fun _=>1) x.Kind+(fun _=>1) x.Now+kia.bk x.Mail+zxa.bk x.Attempt+(bkL (fun _=>1)) x.Results+1
instance:Inhabited zha:=⟨⟨default,default,default,default,default⟩⟩
def zla.ok(x:zla):Prop:=(okL (fun _=>True)) x.out
def zla.bk(x:zla):Nat:=(bkL (fun _=>1)) x.out+1
instance:Inhabited zla:=⟨⟨default⟩⟩
def zia.ok(x:zia):Prop:=(okL (fun _=>True)) x.b/\(fun _=>True) x.bad
def zia.bk(x:zia):Nat:=(bkL (fun _=>1)) x.b+(fun _=>1) x.bad+1
instance:Inhabited zia:=⟨⟨default,default⟩⟩
def kla.ok(x:kla):Prop:=(okL (fun _=>True)) x.b/\(fun _=>True) x.bad
def kla.bk(x:kla):Nat:=(bkL (fun _=>1)) x.b+(fun _=>1) x.bad+1
instance:Inhabited kla:=⟨⟨default,default⟩⟩
theorem op_uint8:Zaa prog 5 1 cU (fun _=>True) (fun _=>1):=opens_U zRa.u (by kernel_rfl)
theorem JVa:Zaa prog 22 1 (cL cU) (okL (fun _=>True)) (bkL (fun _=>1)):=Yma op_uint8 rfl zqa.u (by kernel_rfl)
theorem Vea:Zaa prog 3 1 cI ok64 (fun _=>1):=opens_I zVa.u (by kernel_rfl)
theorem vya:Zaa prog 9 1 cS Jga (fun s=>s.length+1):=opens_S kaa.u (by kernel_rfl)
theorem WHa:Zaa prog 78 2 zca.pc zca.ok zca.bk:=⟨by kernel_rfl,fun _=>rfl,fun {H enc W fuel cs d} h=>by
 obtain ⟨xs,n,_,rfl,hl,hlen,hf⟩:=DataW.trod_struct zNa.u h;have hl2:cs.length=2:=hl.trans (by kernel_rfl)
 match xs,hlen with
 | [y0,y1],_=>
  obtain ⟨x0,r0,o0,b0⟩:=vya.op (show _=some y0 from hf 0 _ rfl)
  replace r0:RelC W _ (List.take (prog.cellsOf 9) (List.drop 0 cs)):=r0
  rw[vya.cells]at r0;obtain ⟨x1,r1,o1,b1⟩:=Vea.op (show _=some y1 from hf 1 _ rfl)
  replace r1:RelC W _ (List.take (prog.cellsOf 3) (List.drop 1 cs)):=r1
  rw[Vea.cells]at r1;exact ⟨⟨x0,x1⟩,(qja (off:=0) rfl r0 (qja (off:=1) rfl r1 (ZMa hl2))),⟨o0,o1⟩,by simp only[List.map,Rows.uptoBulk,Rows.uptoBulkAll,zca.bk];omega⟩⟩
theorem jWa:Zaa prog 23 1 (cL zca.pc) (okL zca.ok) (bkL zca.bk):=Yma WHa rfl zYa.u (by kernel_rfl)
theorem KAa:Zaa prog 25 3 zGa.pc zGa.ok zGa.bk:=⟨by kernel_rfl,fun _=>rfl,fun {H enc W fuel cs d} h=>by
 obtain ⟨xs,n,_,rfl,hl,hlen,hf⟩:=DataW.trod_struct Kza.u h;have hl2:cs.length=3:=hl.trans (by kernel_rfl)
 match xs,hlen with
 | [y0,y1,y2],_=>
  obtain ⟨x0,r0,o0,b0⟩:=vya.op (show _=some y0 from hf 0 _ rfl)
  replace r0:RelC W _ (List.take (prog.cellsOf 9) (List.drop 0 cs)):=r0
  rw[vya.cells]at r0;obtain ⟨x1,r1,o1,b1⟩:=jWa.op (show _=some y1 from hf 1 _ rfl)
  replace r1:RelC W _ (List.take (prog.cellsOf 23) (List.drop 1 cs)):=r1
  rw[jWa.cells]at r1;obtain ⟨x2,r2,o2,b2⟩:=vya.op (show _=some y2 from hf 2 _ rfl)
  replace r2:RelC W _ (List.take (prog.cellsOf 9) (List.drop 2 cs)):=r2
  rw[vya.cells]at r2;exact ⟨⟨x0,x1,x2⟩,(qja (off:=0) rfl r0 (qja (off:=1) rfl r1 (qja (off:=2) rfl r2 (ZMa hl2)))),⟨o0,o1,o2⟩,by simp only[List.map,Rows.uptoBulk,Rows.uptoBulkAll,zGa.bk];omega⟩⟩
theorem kSb:Zaa prog 80 2 zja.pc zja.ok zja.bk:=⟨by kernel_rfl,fun _=>rfl,fun {H enc W fuel cs d} h=>by
 obtain ⟨xs,n,_,rfl,hl,hlen,hf⟩:=DataW.trod_struct qka.u h;have hl2:cs.length=2:=hl.trans (by kernel_rfl)
 match xs,hlen with
 | [y0,y1],_=>
  obtain ⟨x0,r0,o0,b0⟩:=vya.op (show _=some y0 from hf 0 _ rfl)
  replace r0:RelC W _ (List.take (prog.cellsOf 9) (List.drop 0 cs)):=r0
  rw[vya.cells]at r0;obtain ⟨x1,r1,o1,b1⟩:=vya.op (show _=some y1 from hf 1 _ rfl)
  replace r1:RelC W _ (List.take (prog.cellsOf 9) (List.drop 1 cs)):=r1
  rw[vya.cells]at r1;exact ⟨⟨x0,x1⟩,(qja (off:=0) rfl r0 (qja (off:=1) rfl r1 (ZMa hl2))),⟨o0,o1⟩,by simp only[List.map,Rows.uptoBulk,Rows.uptoBulkAll,zja.bk];omega⟩⟩
theorem Qta:Zaa prog 26 1 (cL zja.pc) (okL zja.ok) (bkL zja.bk):=Yma kSb rfl k9a.u (by kernel_rfl)
theorem Qua:Zaa prog 28 2 zya.pc zya.ok zya.bk:=⟨by kernel_rfl,fun _=>rfl,fun {H enc W fuel cs d} h=>by
 obtain ⟨xs,n,_,rfl,hl,hlen,hf⟩:=DataW.trod_struct qOa.u h;have hl2:cs.length=2:=hl.trans (by kernel_rfl)
 match xs,hlen with
 | [y0,y1],_=>
  obtain ⟨x0,r0,o0,b0⟩:=Qta.op (show _=some y0 from hf 0 _ rfl)
  replace r0:RelC W _ (List.take (prog.cellsOf 26) (List.drop 0 cs)):=r0
  rw[Qta.cells]at r0;obtain ⟨x1,r1,o1,b1⟩:=JVa.op (show _=some y1 from hf 1 _ rfl)
  replace r1:RelC W _ (List.take (prog.cellsOf 22) (List.drop 1 cs)):=r1
  rw[JVa.cells]at r1;exact ⟨⟨x0,x1⟩,(qja (off:=0) rfl r0 (qja (off:=1) rfl r1 (ZMa hl2))),⟨o0,o1⟩,by simp only[List.map,Rows.uptoBulk,Rows.uptoBulkAll,zya.bk];omega⟩⟩
theorem YBa:Zaa prog 30 5 kia.pc kia.ok kia.bk:=⟨by kernel_rfl,fun _=>rfl,fun {H enc W fuel cs d} h=>by
 obtain ⟨xs,n,_,rfl,hl,hlen,hf⟩:=DataW.trod_struct kMa.u h;have hl2:cs.length=5:=hl.trans (by kernel_rfl)
 match xs,hlen with
 | [y0,y1],_=>
  obtain ⟨x0,r0,o0,b0⟩:=KAa.op (show _=some y0 from hf 0 _ rfl)
  replace r0:RelC W _ (List.take (prog.cellsOf 25) (List.drop 0 cs)):=r0
  rw[KAa.cells]at r0;obtain ⟨x1,r1,o1,b1⟩:=Qua.op (show _=some y1 from hf 1 _ rfl)
  replace r1:RelC W _ (List.take (prog.cellsOf 28) (List.drop 3 cs)):=r1
  rw[Qua.cells]at r1;exact ⟨⟨x0,x1⟩,(qja (off:=0) rfl r0 (qja (off:=3) rfl r1 (ZMa hl2))),⟨o0,o1⟩,by simp only[List.map,Rows.uptoBulk,Rows.uptoBulkAll,kia.bk];omega⟩⟩
theorem WWa:Zaa prog 31 1 (cL cI) (okL ok64) (bkL (fun _=>1)):=Yma Vea rfl jVa.u (by kernel_rfl)
theorem Qva:Zaa prog 33 3 zxa.pc zxa.ok zxa.bk:=⟨by kernel_rfl,fun _=>rfl,fun {H enc W fuel cs d} h=>by
 obtain ⟨xs,n,_,rfl,hl,hlen,hf⟩:=DataW.trod_struct ywa.u h;have hl2:cs.length=3:=hl.trans (by kernel_rfl)
 match xs,hlen with
 | [y0,y1,y2],_=>
  obtain ⟨x0,r0,o0,b0⟩:=Vea.op (show _=some y0 from hf 0 _ rfl)
  replace r0:RelC W _ (List.take (prog.cellsOf 3) (List.drop 0 cs)):=r0
  rw[Vea.cells]at r0;obtain ⟨x1,r1,o1,b1⟩:=vya.op (show _=some y1 from hf 1 _ rfl)
  replace r1:RelC W _ (List.take (prog.cellsOf 9) (List.drop 1 cs)):=r1
  rw[vya.cells]at r1;obtain ⟨x2,r2,o2,b2⟩:=WWa.op (show _=some y2 from hf 2 _ rfl)
  replace r2:RelC W _ (List.take (prog.cellsOf 31) (List.drop 2 cs)):=r2
  rw[WWa.cells]at r2;exact ⟨⟨x0,x1,x2⟩,(qja (off:=0) rfl r0 (qja (off:=1) rfl r1 (qja (off:=2) rfl r2 (ZMa hl2)))),⟨o0,o1,o2⟩,by simp only[List.map,Rows.uptoBulk,Rows.uptoBulkAll,zxa.bk];omega⟩⟩
theorem zKb:Zaa prog 35 11 zha.pc zha.ok zha.bk:=⟨by kernel_rfl,fun _=>rfl,fun {H enc W fuel cs d} h=>by
 obtain ⟨xs,n,_,rfl,hl,hlen,hf⟩:=DataW.trod_struct kxa.u h;have hl2:cs.length=11:=hl.trans (by kernel_rfl)
 match xs,hlen with
 | [y0,y1,y2,y3,y4],_=>
  obtain ⟨x0,r0,o0,b0⟩:=Vea.op (show _=some y0 from hf 0 _ rfl)
  replace r0:RelC W _ (List.take (prog.cellsOf 3) (List.drop 0 cs)):=r0
  rw[Vea.cells]at r0;obtain ⟨x1,r1,o1,b1⟩:=Vea.op (show _=some y1 from hf 1 _ rfl)
  replace r1:RelC W _ (List.take (prog.cellsOf 3) (List.drop 1 cs)):=r1
  rw[Vea.cells]at r1;obtain ⟨x2,r2,o2,b2⟩:=YBa.op (show _=some y2 from hf 2 _ rfl)
  replace r2:RelC W _ (List.take (prog.cellsOf 30) (List.drop 2 cs)):=r2
  rw[YBa.cells]at r2;obtain ⟨x3,r3,o3,b3⟩:=Qva.op (show _=some y3 from hf 3 _ rfl)
  replace r3:RelC W _ (List.take (prog.cellsOf 33) (List.drop 7 cs)):=r3
  rw[Qva.cells]at r3;obtain ⟨x4,r4,o4,b4⟩:=WWa.op (show _=some y4 from hf 4 _ rfl)
  replace r4:RelC W _ (List.take (prog.cellsOf 31) (List.drop 10 cs)):=r4
  rw[WWa.cells]at r4;exact ⟨⟨x0,x1,x2,x3,x4⟩,(qja (off:=0) rfl r0 (qja (off:=1) rfl r1 (qja (off:=2) rfl r2 (qja (off:=7) rfl r3 (qja (off:=10) rfl r4 (ZMa hl2)))))),⟨o0,o1,o2,o3,o4⟩,by simp only[List.map,Rows.uptoBulk,Rows.uptoBulkAll,zha.bk];omega⟩⟩
theorem YCa:Zaa prog 45 1 (cL zha.pc) (okL zha.ok) (bkL zha.bk):=Yma zKb rfl kja.u (by kernel_rfl)
def R_In(a0:Int)(a1:Int)(a2:Int):Option Bool:=
 ((bif decide (a1<=a0) then some (decide (a0<=a2)) else some false):Option Bool).bind fun (j1:Bool)=>some j1
def R_At(a0:Int)(a1:Int):Option zpa:=
 some ((zpa.mk a0 a1))
def q2a(a0:UInt8):Option Bool:=
 ((R_In ((a0.toNat:Int)) 97 122).bind fun v2=>(bif v2 then some true else (R_In ((a0.toNat:Int)) 65 90).bind fun v5=>(bif v5 then some true else (R_In ((a0.toNat:Int)) 48 57).bind fun v8=>some v8)):Option Bool).bind fun (j1:Bool)=>some j1
def Vfa(a0:Str)(s1:Int):Option (Step Int (Unit ⊕ Int)):=
 (bif decide (s1 < (a0.length:Int)) then (idx a0 s1).bind fun v7=>(bif ((v7.toNat:Int)==64) then some (.out (.inr s1)) else some (.cont (w64 (s1+1)))) else some (.out (.inl (()))))
noncomputable def JWa(a0:Str):Option Int:=
 (iter (Vfa a0) 0).bind (Sum.elim (fun b2=>some ((a0.length:Int))) (fun b3=>some b3))
def via(a0:Str)(s1:Int):Option (Step Int (Unit ⊕ Bool)):=
 (bif decide (s1 < (a0.length:Int)) then (idx a0 s1).bind fun v7=>((idx a0 s1).bind fun v10=>(bif ((v10.toNat:Int)==46) then (bif (s1==0) then some true else (bif (s1==(w64 ((a0.length:Int) - 1))) then some true else (idx a0 ((w64 (s1 - 1)))).bind fun v15=>some (((v15.toNat:Int)==46)))) else some false):Option Bool).bind fun (j9:Bool)=>(bif j9 then some (.out (.inr false)) else ((R_In ((v7.toNat:Int)) 97 122).bind fun v19=>(bif (!v19) then (R_In ((v7.toNat:Int)) 48 57).bind fun v22=>(bif (!v22) then (idx a0 s1).bind fun v25=>(bif ((v25.toNat:Int) !=45) then (idx a0 s1).bind fun v28=>some (((v28.toNat:Int) !=46)) else some false) else some false) else some false):Option Bool).bind fun (j18:Bool)=>(bif j18 then some (.out (.inr false)) else some (.cont (w64 (s1+1))))) else some (.out (.inl (()))))
noncomputable def jia(a0:Str):Option Bool:=
 (iter (via a0) 0).bind (Sum.elim (fun b2=>(R_In ((a0.length:Int)) 1 60).bind fun v31=>some v31) (fun b3=>some b3))
def wsa(a0:Str)(v1:Int)(s3:Int):Option (Step Int (Unit ⊕ Bool)):=
 (bif decide (s3 < v1) then (idx a0 s3).bind fun v9=>((q2a v9).bind fun v12=>(bif (!v12) then (bif ((v9.toNat:Int) !=45) then (bif ((v9.toNat:Int) !=95) then (bif ((v9.toNat:Int) !=46) then (bif ((v9.toNat:Int) !=43) then some (((v9.toNat:Int) !=61)) else some false) else some false) else some false) else some false) else some false):Option Bool).bind fun (j11:Bool)=>(bif j11 then some (.out (.inr false)) else some (.cont (w64 (s3+1)))) else some (.out (.inl (()))))
noncomputable def yla(a0:Str):Option Bool:=
 (JWa a0).bind fun v1=>(iter (wsa a0 v1) 0).bind (Sum.elim (fun b4=>((R_In v1 1 60).bind fun v21=>(bif v21 then (bif decide (v1 < (a0.length:Int)) then (cut a0 ((w64 (v1+1))) ((a0.length:Int))).bind fun v25=>(jia v25).bind fun v27=>some v27 else some false) else some false):Option Bool).bind fun (j20:Bool)=>some j20) (fun b5=>some b5))
def zsa(a0:Int)(a1:Int):Option zpa:=
 some ((zpa.mk a0 a1))
def ksa:Option zpa:=
 some ((zpa.mk 0 0))
def z7a(a0:zpa):Option Bool:=
 some ((a0.Code !=0))
def q3a(a0:Int):Option Bool:=
 ((bif decide ((-68719476736)<=a0) then some (decide (a0<=68719476736)) else some false):Option Bool).bind fun (j1:Bool)=>some j1
def wNa(a0:UInt8):Option Bool:=
 ((bif decide (97<=(a0.toNat:Int)) then (bif decide ((a0.toNat:Int)<=122) then some true else (bif decide (65<=(a0.toNat:Int)) then (bif decide ((a0.toNat:Int)<=90) then some true else (bif decide (48<=(a0.toNat:Int)) then some (decide ((a0.toNat:Int)<=57)) else some false)) else (bif decide (48<=(a0.toNat:Int)) then some (decide ((a0.toNat:Int)<=57)) else some false))) else (bif decide (65<=(a0.toNat:Int)) then (bif decide ((a0.toNat:Int)<=90) then some true else (bif decide (48<=(a0.toNat:Int)) then some (decide ((a0.toNat:Int)<=57)) else some false)) else (bif decide (48<=(a0.toNat:Int)) then some (decide ((a0.toNat:Int)<=57)) else some false))):Option Bool).bind fun (j1:Bool)=>some j1
def qPa(a0:List Int)(s1:Int):Option (Step Int (Unit ⊕ Bool)):=
 (bif decide (s1 < (a0.length:Int)) then (idx a0 s1).bind fun v7=>(q3a v7).bind fun v9=>(bif (!v9) then some (.out (.inr false)) else some (.cont (w64 (s1+1)))) else some (.out (.inl (()))))
noncomputable def jwa(a0:List Int):Option Bool:=
 (iter (qPa a0) 0).bind fun o=>match o with | .inl b2=>some true | .inr b3=>some b3
def yma(a0:List UInt8)(a1:List UInt8):Option Bool:=
 some ((a0==a1))
def qsa(a0:List UInt8)(a1:List UInt8):Option Bool:=
 ((bif decide ((a1.length:Int)<=(a0.length:Int)) then (cut a0 0 ((a1.length:Int))).bind fun v3=>(yma v3 a1).bind fun v5=>some v5 else some false):Option Bool).bind fun (j1:Bool)=>some j1
def koa(s:Str)(c:UInt8):Option Int:=some (Lib.indexByte s c)
def qfa(s t:Str):Option Bool:=if s.length < 4294967281 then some (Lib.contains s t) else none
def wHa(s t:Str):Option (Str × Str × Bool):=if s.length < 4294967281 then some (Lib.cut s t) else none
def kZa(a0:Int):Option Bool:=
 ((bif decide (0<=a0) then some (decide (a0 < 55296)) else some false):Option Bool).bind fun (j1:Bool)=>(bif j1 then some true else ((bif decide (57343 < a0) then some (decide (a0<=1114111)) else some false):Option Bool).bind fun (j4:Bool)=>(bif j4 then some true else some false))
def qWa(a0:Str)(s7:Nat):Option (Step Nat (Unit ⊕ Int)):=
 (bif decide (s7 < a0.length) then (bif ((Qsa a0 s7)==65533) then some (.out (.inr (((s7:Nat):Int)))) else some (.cont (s7+Zja a0 s7))) else some (.out (.inl (()))))
def y6a(a0:Str)(a1:Int)(j23:Int × Int)(s36:Int):Option (Step Int Unit):=
 (bif decide (s36 < (((yDa a1)).length:Int)) then (idx a0 ((w64 (j23.2 - s36)))).bind fun v40=>(idx ((yDa a1)) ((w64 (j23.1 - s36)))).bind fun v42=>(bif ((v40.toNat:Int) !=(v42.toNat:Int)) then none else some (.cont (w64 (s36+1)))) else some (.out (())))
noncomputable def qXa(a0:Str)(a1:Int)(j23:Int × Int):Option (Step Int (Unit ⊕ Int)):=
 (iter (y6a a0 a1 j23) 1).bind fun b37=>some (.out (.inr ((w64 (j23.2 - j23.1)))))
noncomputable def qYa(a0:Str)(a1:Int)(s17:Int):Option (Step Int (Unit ⊕ Int)):=
 (bif decide (s17 < (a0.length:Int)) then (idx a0 s17).bind fun v24=>(idx ((yDa a1)) ((w64 ((((yDa a1)).length:Int) - 1)))).bind fun v26=>(bif ((v24.toNat:Int) !=(v26.toNat:Int)) then (cut a0 ((w64 (s17+1))) ((a0.length:Int))).bind fun v29=>(idx ((yDa a1)) ((w64 ((((yDa a1)).length:Int) - 1)))).bind fun v31=>(koa v29 v31).bind fun v33=>(bif decide (v33 < 0) then some (.out (.inr ((-1)))) else (qXa a0 a1 ((w64 ((((yDa a1)).length:Int) - 1)),(w64 (s17+(w64 (v33+1))))))) else (qXa a0 a1 ((w64 ((((yDa a1)).length:Int) - 1)),s17))) else some (.out (.inl (()))))
noncomputable def kOa(a0:Str)(a1:Int):Option Int:=
 ((bif decide (0<=a1) then some (decide (a1 < 128)) else some false):Option Bool).bind fun (j1:Bool)=>(bif j1 then (koa a0 ((toU8 a1))).bind fun v4=>some v4 else (bif (a1==65533) then (iter (qWa a0) 0).bind (Sum.elim (fun b8=>some ((-1))) (fun b9=>some b9)) else (kZa a1).bind fun v14=>(bif (!v14) then some ((-1)) else (iter (qYa a0 a1) ((w64 ((((yDa a1)).length:Int) - 1)))).bind (Sum.elim (fun b18=>some ((-1))) (fun b19=>some b19)))))
def kea(a0:Int):Option Bool:=
 some (decide (8 < a0))
noncomputable def qZa(a0:Str)(a1:Str)(s12:Nat):Option (Step Nat (Unit ⊕ Int)):=
 (bif decide (s12 < a0.length) then (kOa a1 ((Qsa a0 s12))).bind fun v18=>(bif decide (0<=v18) then some (.out (.inr (((s12:Nat):Int)))) else some (.cont (s12+Zja a0 s12))) else some (.out (.inl (()))))
noncomputable def wla(a0:Str)(a1:Str):Option Int:=
 (bif (a1==([]:Str)) then some ((-1)) else (bif ((a1.length:Int)==1) then (idx a1 0).bind fun v3=>((bif decide (128<=(v3.toNat:Int)) then some 65533 else some ((v3.toNat:Int))):Option Int).bind fun (j5:Int)=>(kOa a0 j5).bind fun v7=>some v7 else (kea ((a0.length:Int))).bind fun v9=>(bif v9 then none else (iter (qZa a0 a1) 0).bind (Sum.elim (fun b13=>some ((-1))) (fun b14=>some b14)))))
def JXa(t:Str):Bool:=t.all fun c=>decide (c.toNat < 128)
def qAa(s t:Str):Option Int:=if s.length < 4294967281/\t.length < 4294967281/\2<=t.length/\JXa t=true then some (Lib.indexAny s t) else none
def kDa(a0:Str)(a1:Str):Option Bool:=
 ((bif decide ((a1.length:Int)<=(a0.length:Int)) then (cut a0 0 ((a1.length:Int))).bind fun v3=>some ((v3==a1)) else some false):Option Bool).bind fun (j1:Bool)=>some j1
def k4a(a0:Str)(a1:Str):Option Bool:=
 (kDa a0 a1).bind fun v1=>some v1
def kEa(a0:Str)(a1:Str):Option Bool:=
 ((bif decide ((a1.length:Int)<=(a0.length:Int)) then (cut a0 ((w64 ((a0.length:Int) - (a1.length:Int)))) ((a0.length:Int))).bind fun v3=>some ((v3==a1)) else some false):Option Bool).bind fun (j1:Bool)=>some j1
def k5a(a0:Str)(a1:Str):Option Bool:=
 (kEa a0 a1).bind fun v1=>some v1
def qIa(a0:Str)(s5:Int):Option (Step Int (Unit ⊕ Unit)):=
 (bif decide (s5 < (a0.length:Int)) then (idx a0 s5).bind fun v11=>((bif decide (97<=(v11.toNat:Int)) then (bif decide ((v11.toNat:Int)<=122) then some true else (bif decide (48<=(v11.toNat:Int)) then (bif decide ((v11.toNat:Int)<=57) then some true else (bif ((v11.toNat:Int)==45) then some true else some (((v11.toNat:Int)==46)))) else (bif ((v11.toNat:Int)==45) then some true else some (((v11.toNat:Int)==46))))) else (bif decide (48<=(v11.toNat:Int)) then (bif decide ((v11.toNat:Int)<=57) then some true else (bif ((v11.toNat:Int)==45) then some true else some (((v11.toNat:Int)==46)))) else (bif ((v11.toNat:Int)==45) then some true else some (((v11.toNat:Int)==46))))):Option Bool).bind fun (j13:Bool)=>(bif (!j13) then some (.out (.inr (()))) else some (.cont (w64 (s5+1)))) else some (.out (.inl (()))))
noncomputable def q4a(a0:Str):Option Bool:=
 ((bif (a0 !=([]:Str)) then (bif decide ((a0.length:Int)<=60) then ((iter (qIa a0) 0).bind (Sum.elim (fun b6=>some true) (fun b7=>some false)):Option Bool).bind fun (j4:Bool)=>(bif j4 then (k4a a0 (([46]:Str))).bind fun v26=>(bif (!v26) then (k5a a0 (([46]:Str))).bind fun v29=>(bif (!v29) then (qfa a0 (([46,46]:Str))).bind fun v32=>some ((!v32)) else some false) else some false) else some false) else some false) else some false):Option Bool).bind fun (j1:Bool)=>some j1
def q5a(v1:Str × Str × Bool)(s8:Int):Option (Step Int (Unit ⊕ Unit)):=
 (bif decide (s8 < (v1.1.length:Int)) then (idx v1.1 s8).bind fun v14=>((wNa v14).bind fun v17=>(bif v17 then some true else (koa (([45,95,46,43,61]:Str)) v14).bind fun v20=>some (decide (0<=v20))):Option Bool).bind fun (j16:Bool)=>(bif (!j16) then some (.out (.inr (()))) else some (.cont (w64 (s8+1)))) else some (.out (.inl (()))))
noncomputable def vFa(a0:Str):Option (Str × Str × Bool):=
 (wHa a0 (([64]:Str))).bind fun v1=>((bif v1.2.2 then (bif (v1.1 !=([]:Str)) then (bif decide ((v1.1.length:Int)<=60) then ((iter (q5a v1) 0).bind (Sum.elim (fun b9=>some true) (fun b10=>some false)):Option Bool).bind fun (j7:Bool)=>(bif j7 then (q4a v1.2.1).bind fun v24=>some v24 else some false) else some false) else some false) else some false):Option Bool).bind fun (j3:Bool)=>some ((v1.1,v1.2.1,j3))
noncomputable def qBa(a0:Str):Option Bool:=
 (vFa a0).bind fun v1=>some v1.2.2
def ZRa(a0:Str)(s1:Int):Option (Step Int (Unit ⊕ Bool)):=
 (bif decide (s1 < (a0.length:Int)) then ((idx a0 s1).bind fun v8=>(q2a v8).bind fun v10=>(bif (!v10) then (idx a0 s1).bind fun v13=>(bif ((v13.toNat:Int) !=45) then (idx a0 s1).bind fun v16=>(bif ((v16.toNat:Int) !=95) then (idx a0 s1).bind fun v19=>some (((v19.toNat:Int) !=46)) else some false) else some false) else some false):Option Bool).bind fun (j7:Bool)=>(bif j7 then some (.out (.inr false)) else some (.cont (w64 (s1+1)))) else some (.out (.inl (()))))
noncomputable def Vga(a0:Str):Option Bool:=
 (iter (ZRa a0) 0).bind (Sum.elim (fun b2=>(R_In ((a0.length:Int)) 1 60).bind fun v22=>some v22) (fun b3=>some b3))
def Qba(a0:List zca)(a1:Str)(s1:Int):Option (Step Int (Unit ⊕ Int)):=
 (bif decide (s1 < (a0.length:Int)) then (idx a0 s1).bind fun v7=>(bif (v7.Address==a1) then some (.out (.inr s1)) else some (.cont (w64 (s1+1)))) else some (.out (.inl (()))))
noncomputable def YDa(a0:List zca)(a1:Str):Option Int:=
 (iter (Qba a0 a1) 0).bind (Sum.elim (fun b2=>some ((-1))) (fun b3=>some b3))
noncomputable def qJa(a0:zGa)(s20:Int):Option (Step Int (Unit ⊕ zpa)):=
 (bif decide (s20 < (a0.To.length:Int)) then (idx a0.To s20).bind fun v26=>(yla v26.Address).bind fun v28=>(bif (!v28) then (R_At 10 s20).bind fun v31=>some (.out (.inr v31)) else (idx a0.To s20).bind fun v33=>(R_In v33.Notify 0 7).bind fun v35=>(bif (!v35) then (R_At 3 s20).bind fun v38=>some (.out (.inr v38)) else (cut a0.To 0 s20).bind fun v40=>(idx a0.To s20).bind fun v42=>(YDa v40 v42.Address).bind fun v44=>(bif decide (0<=v44) then (R_At 7 s20).bind fun v47=>some (.out (.inr v47)) else some (.cont (w64 (s20+1)))))) else some (.out (.inl (()))))
noncomputable def v2a(a0:zGa):Option zpa:=
 ((bif (a0.From !=([]:Str)) then (yla a0.From).bind fun v3=>some ((!v3)) else some false):Option Bool).bind fun (j1:Bool)=>(bif j1 then (R_At 10 ((-10))).bind fun v6=>some v6 else (R_In ((a0.To.length:Int)) 1 60).bind fun v8=>(bif (!v8) then (R_At 2 ((-11))).bind fun v11=>some v11 else ((bif (a0.Id !=([]:Str)) then (Vga a0.Id).bind fun v15=>some ((!v15)) else some false):Option Bool).bind fun (j13:Bool)=>(bif j13 then (R_At 10 ((-12))).bind fun v18=>some v18 else (iter (qJa a0) 0).bind (Sum.elim (fun b21=>some ((zpa.mk 0 0))) (fun b22=>some b22)))))
def wZa(a0:Str)(s5:Int):Option (Step Int (Unit ⊕ Unit)):=
 (bif decide (s5 < (a0.length:Int)) then (idx a0 s5).bind fun v11=>((wNa v11).bind fun v14=>(bif v14 then some true else (bif ((v11.toNat:Int)==45) then some true else (bif ((v11.toNat:Int)==95) then some true else some (((v11.toNat:Int)==46))))):Option Bool).bind fun (j13:Bool)=>(bif (!j13) then some (.out (.inr (()))) else some (.cont (w64 (s5+1)))) else some (.out (.inl (()))))
noncomputable def Zma(a0:Str):Option Bool:=
 ((bif (a0 !=([]:Str)) then (bif decide ((a0.length:Int)<=60) then ((iter (wZa a0) 0).bind (Sum.elim (fun b6=>some true) (fun b7=>some false)):Option Bool).bind fun (j4:Bool)=>some j4 else some false) else some false):Option Bool).bind fun (j1:Bool)=>some j1
def v3a(a0:Int):Option Bool:=
 ((bif decide (0<=a0) then some (decide (a0<=7)) else some false):Option Bool).bind fun (j1:Bool)=>some j1
def k0a(v7:zca)(v19:List zca)(s22:Int):Option (Step Int (Unit ⊕ Int)):=
 (bif decide (s22 < (v19.length:Int)) then (idx v19 s22).bind fun v28=>(bif (v28.Address==v7.Address) then some (.out (.inr s22)) else some (.cont (w64 (s22+1)))) else some (.out (.inl (()))))
noncomputable def qxa(a0:List zca)(s1:Int):Option (Step Int (Unit ⊕ zpa)):=
 (bif decide (s1 < (a0.length:Int)) then (idx a0 s1).bind fun v7=>(qBa v7.Address).bind fun v9=>(bif (!v9) then (zsa 10 s1).bind fun v12=>some (.out (.inr v12)) else (v3a v7.Notify).bind fun v14=>(bif (!v14) then (zsa 3 s1).bind fun v17=>some (.out (.inr v17)) else (cut a0 0 s1).bind fun v19=>((iter (k0a v7 v19) 0).bind (Sum.elim (fun b23=>some ((-1))) (fun b24=>some b24)):Option Int).bind fun (j21:Int)=>(bif decide (0<=j21) then (zsa 7 s1).bind fun v32=>some (.out (.inr v32)) else some (.cont (w64 (s1+1)))))) else some (.out (.inl (()))))
noncomputable def qta(a0:List zca):Option zpa:=
 (iter (qxa a0) 0).bind (Sum.elim (fun b2=>(ksa).bind fun v34=>some v34) (fun b3=>some b3))
noncomputable def q6a(a0:zGa):Option zpa:=
 ((bif (a0.From !=([]:Str)) then (qBa a0.From).bind fun v3=>some ((!v3)) else some false):Option Bool).bind fun (j1:Bool)=>(bif j1 then (zsa 10 ((-10))).bind fun v6=>some v6 else ((bif decide ((a0.To.length:Int) < 1) then some true else some (decide (60 < (a0.To.length:Int)))):Option Bool).bind fun (j8:Bool)=>(bif j8 then (zsa 2 ((-11))).bind fun v11=>some v11 else ((bif (a0.Id !=([]:Str)) then (Zma a0.Id).bind fun v15=>some ((!v15)) else some false):Option Bool).bind fun (j13:Bool)=>(bif j13 then (zsa 10 ((-12))).bind fun v18=>some v18 else (qta a0.To).bind fun v20=>some v20)))
noncomputable def Zna(a0:Str):Option Str:=
 (JWa a0).bind fun v1=>(bif (v1==(a0.length:Int)) then some (([]:Str)) else (cut a0 ((w64 (v1+1))) ((a0.length:Int))).bind fun v4=>some v4)
def kNa(a0:Str)(a1:Str):Option Bool:=
 (qAa a0 a1).bind fun v1=>some (decide (0<=v1))
def yKa(a0:Str)(s5:Int):Option (Step Int (Unit ⊕ Unit)):=
 (bif decide (s5 < (a0.length:Int)) then (idx a0 s5).bind fun v11=>((bif decide (33<=(v11.toNat:Int)) then (bif decide ((v11.toNat:Int)<=126) then some (((v11.toNat:Int) !=58)) else some false) else some false):Option Bool).bind fun (j13:Bool)=>(bif (!j13) then some (.out (.inr (()))) else some (.cont (w64 (s5+1)))) else some (.out (.inl (()))))
noncomputable def KBa(a0:Str):Option Bool:=
 ((bif (a0 !=([]:Str)) then (bif decide ((a0.length:Int)<=60) then ((iter (yKa a0) 0).bind (Sum.elim (fun b6=>some true) (fun b7=>some false)):Option Bool).bind fun (j4:Bool)=>some j4 else some false) else some false):Option Bool).bind fun (j1:Bool)=>some j1
def KCa(a0:Str):Option Bool:=
 (kNa a0 (([13,10,0]:Str))).bind fun v1=>some v1
def v4a(a0:UInt8):Option Bool:=
 ((bif ((a0.toNat:Int)==32) then some true else some (((a0.toNat:Int)==9))):Option Bool).bind fun (j1:Bool)=>some j1
def Zoa(a0:Str):Option Bool:=
 ((KCa a0).bind fun v2=>(bif (!v2) then (bif (a0==([]:Str)) then some true else (idx a0 0).bind fun v6=>(v4a v6).bind fun v8=>(bif (!v8) then (idx a0 ((w64 ((a0.length:Int) - 1)))).bind fun v11=>(v4a v11).bind fun v13=>some ((!v13)) else some false)) else some false):Option Bool).bind fun (j1:Bool)=>some j1
def vja(s1:Int × Int)(j5:Int):Option (Step (Int × Int) Int):=
 some (.cont (j5,(w64 (s1.2+1))))
def jda(a0:Str)(s1:Int × Int):Option (Step (Int × Int) Int):=
 (bif decide (s1.2 < (a0.length:Int)) then ((idx a0 s1.2).bind fun v7=>(v4a v7).bind fun v9=>(bif (!v9) then some true else (idx a0 ((w64 (s1.2 - 1)))).bind fun v12=>(v4a v12).bind fun v14=>some v14):Option Bool).bind fun (j6:Bool)=>(bif j6 then (vja s1 s1.1) else ((bif decide (0 < s1.1) then some (decide (78 < s1.2)) else some false):Option Bool).bind fun (j17:Bool)=>(bif j17 then some (.out s1.1) else (vja s1 s1.2))) else some (.out s1.1))
noncomputable def Zpa(a0:Str)(a1:Int):Option Int:=
 (iter (jda a0) ((0,(max a1 1)))).bind fun b2=>some b2
noncomputable def yLa(s18:Str × Int × (List Str)):Option (Step (Str × Int × (List Str)) (Str × (List Str))):=
 (bif decide (78 < (s18.1.length:Int)) then (Zpa s18.1 s18.2.1).bind fun v22=>(bif (v22==0) then some (.out ((s18.1,s18.2.2))) else (cut s18.1 0 v22).bind fun v25=>(app 8796093022208 s18.2.2 (([v25]:List Str))).bind fun v27=>(cut s18.1 v22 ((s18.1.length:Int))).bind fun v29=>some (.cont (v29,0,v27))) else some (.out ((s18.1,s18.2.2))))
def jXa(v31:List Str)(s34:Int):Option (Step Int (Unit ⊕ ((List Str) × zpa))):=
 (bif decide (s34 < (v31.length:Int)) then (idx v31 s34).bind fun v40=>(bif decide (998 < (v40.length:Int)) then (zsa 1 s34).bind fun v43=>some (.out (.inr (([],v43)))) else some (.cont (w64 (s34+1)))) else some (.out (.inl (()))))
noncomputable def Zqa(a0:Str)(a1:Str):Option ((List Str) × zpa):=
 (KBa a0).bind fun v1=>(bif (!v1) then (zsa 10 ((-1))).bind fun v4=>some (([],v4)) else (bif decide (4000 < (a1.length:Int)) then (zsa 1 ((-1))).bind fun v7=>some (([],v7)) else (Zoa a1).bind fun v9=>(bif (!v9) then (zsa 11 ((-1))).bind fun v12=>some (([],v12)) else (cat a0 (([58,32]:Str))).bind fun v14=>(cat v14 a1).bind fun v16=>(iter (yLa) ((v16,(w64 ((a0.length:Int)+2)),([]:List Str)))).bind fun b19=>(app 8796093022208 b19.2 (([b19.1]:List Str))).bind fun v31=>(iter (jXa v31) 0).bind (Sum.elim (fun b35=>(ksa).bind fun v45=>some ((v31,v45))) (fun b36=>some ((b36.1,b36.2)))))))
noncomputable def vRa(a0:List zja)(s4:Int):Option (Step Int (Unit ⊕ zpa)):=
 (bif decide (s4 < (a0.length:Int)) then (idx a0 s4).bind fun v10=>(Zqa v10.Name v10.Value).bind fun v12=>(z7a v12.2).bind fun v14=>(bif v14 then (zsa v12.2.Code s4).bind fun v17=>some (.out (.inr v17)) else some (.cont (w64 (s4+1)))) else some (.out (.inl (()))))
noncomputable def v5a(a0:List zja):Option zpa:=
 (bif decide (60 < (a0.length:Int)) then (zsa 2 ((-1))).bind fun v2=>some v2 else (iter (vRa a0) 0).bind (Sum.elim (fun b5=>(ksa).bind fun v19=>some v19) (fun b6=>some b6)))
def vza(v7:(List Str) × zpa)(s9:Int × (List UInt8)):Option (Step (Int × (List UInt8)) (List UInt8)):=
 (bif decide (s9.1 < (v7.1.length:Int)) then (idx v7.1 s9.1).bind fun v13=>(app 140737488355328 s9.2 v13).bind fun v15=>(app 140737488355328 v15 (([(13:UInt8),(10:UInt8)]:List UInt8))).bind fun v17=>some (.cont ((w64 (s9.1+1)),v17)) else some (.out s9.2))
noncomputable def vAa(a0:zya)(s1:Int × (List UInt8)):Option (Step (Int × (List UInt8)) (List UInt8)):=
 (bif decide (s1.1 < (a0.Fields.length:Int)) then (idx a0.Fields s1.1).bind fun v5=>(Zqa v5.Name v5.Value).bind fun v7=>(iter (vza v7) ((0,s1.2))).bind fun b10=>some (.cont ((w64 (s1.1+1)),b10)) else some (.out s1.2))
noncomputable def w0a(a0:zya):Option (List UInt8):=
 (iter (vAa a0) ((0,([]:List UInt8)))).bind fun b2=>(app 140737488355328 b2 (([(13:UInt8),(10:UInt8)]:List UInt8))).bind fun v19=>(app 140737488355328 v19 a0.Body).bind fun v21=>some v21
def w1a(j7:Int × Int):Option (Step (Int × Int) (Unit ⊕ Int)):=
 some (.cont (j7.1,(w64 (j7.2+1))))
def wma(a0:List UInt8)(s1:Int × Int):Option (Step (Int × Int) (Unit ⊕ Int)):=
 (bif decide (s1.2 < (a0.length:Int)) then (idx a0 s1.2).bind fun v8=>((bif ((v8.toNat:Int)==13) then (bif decide ((w64 (s1.2+1)) < (a0.length:Int)) then (idx a0 ((w64 (s1.2+1)))).bind fun v13=>some (((v13.toNat:Int)==10)) else some false) else some false):Option Bool).bind fun (j10:Bool)=>(bif j10 then (w1a (0,(w64 (s1.2+1)))) else ((bif ((v8.toNat:Int)==13) then some true else some (((v8.toNat:Int)==10))):Option Bool).bind fun (j16:Bool)=>(bif j16 then some (.out (.inr 11)) else (bif decide (998 < (w64 (s1.1+1))) then some (.out (.inr 1)) else (w1a ((w64 (s1.1+1)),s1.2))))) else some (.out (.inl (()))))
noncomputable def Zra(a0:List UInt8):Option Int:=
 (iter (wma a0) ((0,0))).bind (Sum.elim (fun b2=>some 0) (fun b3=>some b3))
noncomputable def yMa(a0:List UInt8):Option zpa:=
 (Zra a0).bind fun v1=>(bif (v1==11) then (zsa 11 ((-5))).bind fun v4=>some v4 else (bif (v1==1) then (zsa 1 ((-6))).bind fun v7=>some v7 else (ksa).bind fun v9=>some v9))
noncomputable def vBa(a0:zya):Option zpa:=
 (v5a a0.Fields).bind fun v1=>(z7a v1).bind fun v3=>(bif v3 then some v1 else (w0a a0).bind fun v6=>(bif decide (12000 < (v6.length:Int)) then (zsa 1 ((-4))).bind fun v9=>some v9 else (yMa a0.Body).bind fun v11=>some v11))
noncomputable def qQa(a0:kia):Option zpa:=
 (q6a a0.Envelope).bind fun v1=>(z7a v1).bind fun v3=>(bif v3 then some v1 else (vBa a0.Message).bind fun v6=>(z7a v6).bind fun v8=>(bif v8 then (zsa v6.Code ((-30))).bind fun v11=>some v11 else (ksa).bind fun v13=>some v13))
def w2a(a0:UInt8):Option Bool:=
 ((bif ((a0.toNat:Int)==32) then some true else some (((a0.toNat:Int)==9))):Option Bool).bind fun (j1:Bool)=>some j1
def qba(s5:Str × Int × (List Str))(s9:Int × Int):Option (Step (Int × Int) Int):=
 ((bif decide (0 < s9.2) then some ((s9.1==0)) else some false):Option Bool).bind fun (j12:Bool)=>(bif j12 then (((bif decide (s5.2.1<=s9.2) then (idx s5.1 s9.2).bind fun v18=>(w2a v18).bind fun v20=>(bif v20 then (idx s5.1 ((w64 (s9.2 - 1)))).bind fun v23=>(w2a v23).bind fun v25=>some ((!v25)) else some false) else some false):Option Bool).bind fun (j16:Bool)=>(bif j16 then some s9.2 else some s9.1):Option Int).bind fun (j15:Int)=>some (.cont (j15,(w64 (s9.2 - 1)))) else some (.out s9.1))
def kSa(s5:Str × Int × (List Str))(s28:Int × Int):Option (Step (Int × Int) Int):=
 ((bif decide (s28.2 < (s5.1.length:Int)) then some ((s28.1==0)) else some false):Option Bool).bind fun (j31:Bool)=>(bif j31 then (((bif decide (s5.2.1<=s28.2) then (idx s5.1 s28.2).bind fun v37=>(w2a v37).bind fun v39=>(bif v39 then (idx s5.1 ((w64 (s28.2 - 1)))).bind fun v42=>(w2a v42).bind fun v44=>some ((!v44)) else some false) else some false):Option Bool).bind fun (j35:Bool)=>(bif j35 then some s28.2 else some s28.1):Option Int).bind fun (j34:Int)=>some (.cont (j34,(w64 (s28.2+1)))) else some (.out s28.1))
noncomputable def v6a(s5:Str × Int × (List Str)):Option (Step (Str × Int × (List Str)) (Str × (List Str))):=
 (bif decide (78 < (s5.1.length:Int)) then (iter (qba s5) ((0,78))).bind fun b10=>(iter (kSa s5) ((b10,79))).bind fun b29=>(bif (b29==0) then some (.out ((s5.1,s5.2.2))) else (cut s5.1 0 b29).bind fun v48=>(app 8796093022208 s5.2.2 (([v48]:List Str))).bind fun v50=>(cut s5.1 b29 ((s5.1.length:Int))).bind fun v52=>some (.cont (v52,1,v50))) else some (.out ((s5.1,s5.2.2))))
noncomputable def wOa(a0:Str)(a1:Str):Option (List Str):=
 (cat a0 (([58,32]:Str))).bind fun v1=>(cat v1 a1).bind fun v3=>(iter (v6a) ((v3,(w64 ((a0.length:Int)+2)),([]:List Str)))).bind fun b6=>(app 8796093022208 b6.2 (([b6.1]:List Str))).bind fun v54=>some v54
def wta(a0:zja)(s1:Int):Option (Step Int (Unit ⊕ Int)):=
 (bif decide (s1 < (a0.Name.length:Int)) then ((idx a0.Name s1).bind fun v8=>(R_In ((v8.toNat:Int)) 33 126).bind fun v10=>(bif (!v10) then some true else (idx a0.Name s1).bind fun v13=>some (((v13.toNat:Int)==58))):Option Bool).bind fun (j7:Bool)=>(bif j7 then some (.out (.inr 10)) else some (.cont (w64 (s1+1)))) else some (.out (.inl (()))))
def wua(a0:zja)(s20:Int):Option (Step Int (Unit ⊕ Int)):=
 (bif decide (s20 < (a0.Value.length:Int)) then ((idx a0.Value s20).bind fun v27=>(bif ((v27.toNat:Int)==0) then some true else (idx a0.Value s20).bind fun v30=>(bif ((v30.toNat:Int)==10) then some true else (idx a0.Value s20).bind fun v33=>some (((v33.toNat:Int)==13)))):Option Bool).bind fun (j26:Bool)=>(bif j26 then some (.out (.inr 11)) else some (.cont (w64 (s20+1)))) else some (.out (.inl (()))))
def wva(v48:List Str)(s50:Int):Option (Step Int (Unit ⊕ Int)):=
 (bif decide (s50 < (v48.length:Int)) then (idx v48 s50).bind fun v56=>(bif decide (998 < (v56.length:Int)) then some (.out (.inr 1)) else some (.cont (w64 (s50+1)))) else some (.out (.inl (()))))
noncomputable def jxa(a0:zja):Option Int:=
 (iter (wta a0) 0).bind (Sum.elim (fun b2=>(R_In ((a0.Name.length:Int)) 1 60).bind fun v16=>(bif (!v16) then some 10 else (bif decide (4000 < (a0.Value.length:Int)) then some 1 else (iter (wua a0) 0).bind (Sum.elim (fun b21=>((bif decide (0 < (a0.Value.length:Int)) then (idx a0.Value 0).bind fun v38=>(w2a v38).bind fun v40=>(bif v40 then some true else (idx a0.Value ((w64 ((a0.Value.length:Int) - 1)))).bind fun v43=>(w2a v43).bind fun v45=>some v45) else some false):Option Bool).bind fun (j36:Bool)=>(bif j36 then some 11 else (wOa a0.Name a0.Value).bind fun v48=>(iter (wva v48) 0).bind (Sum.elim (fun b51=>some 0) (fun b52=>some b52)))) (fun b22=>some b22))))) (fun b3=>some b3))
def q7a(v9:List Str)(s11:Int × (List UInt8)):Option (Step (Int × (List UInt8)) (List UInt8)):=
 (bif decide (s11.1 < (v9.length:Int)) then (idx v9 s11.1).bind fun v15=>(app 140737488355328 s11.2 v15).bind fun v17=>(app 140737488355328 v17 (([(13:UInt8),(10:UInt8)]:List UInt8))).bind fun v19=>some (.cont ((w64 (s11.1+1)),v19)) else some (.out s11.2))
noncomputable def q8a(a0:zya)(s1:Int × (List UInt8)):Option (Step (Int × (List UInt8)) (List UInt8)):=
 (bif decide (s1.1 < (a0.Fields.length:Int)) then (idx a0.Fields s1.1).bind fun v5=>(idx a0.Fields s1.1).bind fun v7=>(wOa v5.Name v7.Value).bind fun v9=>(iter (q7a v9) ((0,s1.2))).bind fun b12=>some (.cont ((w64 (s1.1+1)),b12)) else some (.out s1.2))
noncomputable def wwa(a0:zya):Option (List UInt8):=
 (iter (q8a a0) ((0,([]:List UInt8)))).bind fun b2=>(app 140737488355328 b2 (([(13:UInt8),(10:UInt8)]:List UInt8))).bind fun v21=>(app 140737488355328 v21 a0.Body).bind fun v23=>some v23
noncomputable def wna(a0:zya)(s4:Int):Option (Step Int (Unit ⊕ zpa)):=
 (bif decide (s4 < (a0.Fields.length:Int)) then (idx a0.Fields s4).bind fun v10=>(jxa v10).bind fun v12=>(bif (v12 !=0) then (R_At v12 s4).bind fun v15=>some (.out (.inr v15)) else some (.cont (w64 (s4+1)))) else some (.out (.inl (()))))
def q9a(j30:Int × Int):Option (Step (Int × Int) (Unit ⊕ zpa)):=
 some (.cont (j30.1,(w64 (j30.2+1))))
def qpa(a0:zya)(s24:Int × Int):Option (Step (Int × Int) (Unit ⊕ zpa)):=
 (bif decide (s24.2 < (a0.Body.length:Int)) then (idx a0.Body s24.2).bind fun v31=>((bif ((v31.toNat:Int)==13) then (bif decide ((w64 (s24.2+1)) < (a0.Body.length:Int)) then (idx a0.Body ((w64 (s24.2+1)))).bind fun v36=>some (((v36.toNat:Int)==10)) else some false) else some false):Option Bool).bind fun (j33:Bool)=>(bif j33 then (q9a (0,(w64 (s24.2+1)))) else ((bif ((v31.toNat:Int)==13) then some true else some (((v31.toNat:Int)==10))):Option Bool).bind fun (j39:Bool)=>(bif j39 then (R_At 11 ((-5))).bind fun v42=>some (.out (.inr v42)) else (bif decide (998 < (w64 (s24.1+1))) then (R_At 1 ((-6))).bind fun v45=>some (.out (.inr v45)) else (q9a ((w64 (s24.1+1)),s24.2))))) else some (.out (.inl (()))))
noncomputable def vGa(a0:zya):Option zpa:=
 (bif decide (60 < (a0.Fields.length:Int)) then (R_At 2 ((-1))).bind fun v2=>some v2 else (iter (wna a0) 0).bind (Sum.elim (fun b5=>((bif decide (12000 < (a0.Body.length:Int)) then some true else (wwa a0).bind fun v19=>some (decide (12000 < (v19.length:Int)))):Option Bool).bind fun (j17:Bool)=>(bif j17 then (R_At 1 ((-4))).bind fun v22=>some v22 else (iter (qpa a0) ((0,0))).bind (Sum.elim (fun b25=>some ((zpa.mk 0 0))) (fun b26=>some b26)))) (fun b6=>some b6)))
noncomputable def vka(a0:kia):Option zpa:=
 (v2a a0.Envelope).bind fun v1=>(((bif (v1.Code==0) then (vGa a0.Message).bind fun v6=>some ((v6.Code !=0)) else some false):Option Bool).bind fun (j4:Bool)=>(bif j4 then (vGa a0.Message).bind fun v9=>(R_At v9.Code ((-30))).bind fun v11=>some ((v11.Code,v11.Index)) else some ((v1.Code,v1.Index))):Option (Int × Int)).bind fun (j3:Int × Int)=>some ((zpa.mk j3.1 j3.2))
def wFa(a0:zya)(a1:zya)(s4:Int):Option (Step Int (Unit ⊕ Bool)):=
 (bif decide (s4 < (a0.Fields.length:Int)) then (idx a0.Fields s4).bind fun v10=>(idx a1.Fields s4).bind fun v12=>(bif (!(kWa [(v10.Name==v12.Name),(v10.Value==v12.Value)])) then some (.out (.inr false)) else some (.cont (w64 (s4+1)))) else some (.out (.inl (()))))
noncomputable def w3a(a0:zya)(a1:zya):Option Bool:=
 ((bif ((a0.Fields.length:Int) !=(a1.Fields.length:Int)) then some true else some ((a0.Body !=a1.Body))):Option Bool).bind fun (j1:Bool)=>(bif j1 then some false else (iter (wFa a0 a1) 0).bind (Sum.elim (fun b5=>some true) (fun b6=>some b6)))
def jea(a0:kia)(a1:kia)(s5:Int):Option (Step Int (Unit ⊕ Bool)):=
 (bif decide (s5 < (a0.Envelope.To.length:Int)) then (idx a0.Envelope.To s5).bind fun v11=>(idx a1.Envelope.To s5).bind fun v13=>(bif (!(kWa [(v11.Address==v13.Address),(v11.Notify==v13.Notify)])) then some (.out (.inr false)) else some (.cont (w64 (s5+1)))) else some (.out (.inl (()))))
noncomputable def Zsa(a0:kia)(a1:kia):Option Bool:=
 ((bif (a0.Envelope.From !=a1.Envelope.From) then some true else (bif (a0.Envelope.Id !=a1.Envelope.Id) then some true else some (((a0.Envelope.To.length:Int) !=(a1.Envelope.To.length:Int))))):Option Bool).bind fun (j1:Bool)=>(bif j1 then some false else (iter (jea a0 a1) 0).bind (Sum.elim (fun b6=>(w3a a0.Message a1.Message).bind fun v16=>some v16) (fun b7=>some b7)))
noncomputable def kua(a0:List zja):Option (List zja):=
 (nilE a0.isEmpty (some ([])) ((app 4398046511104 ([]:List zja) a0).bind fun v2=>some v2))
noncomputable def qla(a0:kia):Option kia:=
 ((nilE a0.Envelope.To.isEmpty (some ([])) ((app 5864062014805 ([]:List zca) a0.Envelope.To).bind fun v3=>some v3)):Option (List zca)).bind fun (j1:List zca)=>(kua a0.Message.Fields).bind fun v5=>((nilE a0.Message.Body.isEmpty (some ([])) ((app 140737488355328 ([]:List UInt8) a0.Message.Body).bind fun v9=>some v9)):Option (List UInt8)).bind fun (j7:List UInt8)=>some ((kia.mk ((zGa.mk a0.Envelope.From j1 a0.Envelope.Id)) ((zya.mk v5 j7))))
def dates_split(a0:Int)(a1:Int):Option (Int × Int):=
 (nz a1).bind fun v1=>(nz a1).bind fun v3=>(nz a1).bind fun v5=>some (((iQuo ((w64 (a0 - (iRem ((w64 ((iRem a0 a1)+a1))) a1)))) a1),(iRem ((w64 ((iRem a0 a1)+a1))) a1)))
def kza(a0:List (List UInt8))(s1:Int × Int):Option (Step (Int × Int) Int):=
 (bif decide (s1.2 < (a0.length:Int)) then (idx a0 s1.2).bind fun v5=>(bif decide ((w64 (s1.1+(v5.length:Int))) < 0) then none else some (.cont ((w64 (s1.1+(v5.length:Int))),(w64 (s1.2+1))))) else some (.out s1.1))
def kAa(a0:List (List UInt8))(s14:Int × (List UInt8)):Option (Step (Int × (List UInt8)) (List UInt8)):=
 (bif decide (s14.1 < (a0.length:Int)) then (idx a0 s14.1).bind fun v18=>(app 140737488355328 s14.2 v18).bind fun v20=>some (.cont ((w64 (s14.1+1)),v20)) else some (.out s14.2))
def kXa(a0:List (List UInt8))(s22:Int × (List UInt8)):Option (Step (Int × (List UInt8)) (List UInt8)):=
 (bif decide (s22.1 < (a0.length:Int)) then (idx a0 s22.1).bind fun v26=>(app 140737488355328 s22.2 v26).bind fun v28=>some (.cont ((w64 (s22.1+1)),v28)) else some (.out s22.2))
noncomputable def kTa(a0:List (List UInt8)):Option (List UInt8):=
 (iter (kza a0) ((0,0))).bind fun b2=>(bif decide (b2 < 0) then none else (bif decide (0 < (w64 (b2 - (w64 (0 - 0))))) then (zrep 140737488355328 ((w64 (b2 - (w64 (0 - 0))))) ((0:UInt8):UInt8)).bind fun v10=>(cut v10 0 0).bind fun v12=>(iter (kAa a0) ((0,v12))).bind fun b15=>some b15 else (iter (kXa a0) ((0,([]:List UInt8)))).bind fun b23=>some b23))
def jya(a0:List Str)(s1:Int × (List zca)):Option (Step (Int × (List zca)) (List zca)):=
 (bif decide (s1.1 < (a0.length:Int)) then (idx a0 s1.1).bind fun v5=>(app 5864062014805 s1.2 (([(zca.mk v5 1)]:List zca))).bind fun v7=>some (.cont ((w64 (s1.1+1)),v7)) else some (.out s1.2))
noncomputable def Vha(a0:List Str):Option kia:=
 (iter (jya a0) ((0,([]:List zca)))).bind fun b2=>some ((kia.mk ((zGa.mk (([115,64,120]:Str)) b2 (([55]:Str)))) ((zya.mk ([]) ([])))))
def vCa(s2:Bool × Int)(j8:Bool):Option (Step (Bool × Int) (Bool ⊕ Bool)):=
 some (.cont (j8,(w64 (s2.2+1))))
def qCa(a0:zba)(s2:Bool × Int):Option (Step (Bool × Int) (Bool ⊕ Bool)):=
 (bif decide (s2.2 < (a0.To.length:Int)) then (idx a0.To s2.2).bind fun v9=>((idx a0.Mail.Envelope.To s2.2).bind fun v12=>(bif (!(kWa [(v9.Recipient.Address==v12.Address),(v9.Recipient.Notify==v12.Notify)])) then some true else (bif (v9.Result !=0) then (bif (v9.Result !=1) then (bif (v9.Result !=3) then some true else (bif v9.Busy then some ((v9.Result !=0)) else some false)) else (bif v9.Busy then some ((v9.Result !=0)) else some false)) else (bif v9.Busy then some ((v9.Result !=0)) else some false))):Option Bool).bind fun (j11:Bool)=>(bif j11 then some (.out (.inr false)) else (bif s2.1 then (vCa s2 true) else (vCa s2 (v9.Result==0)))) else some (.out (.inl s2.1)))
noncomputable def vla(a0:zba):Option Bool:=
 (bif ((a0.To.length:Int) !=(a0.Mail.Envelope.To.length:Int)) then some false else (iter (qCa a0) ((false,0))).bind (Sum.elim (fun b3=>some b3) (fun b4=>some b4)))
noncomputable def qqa(a0:zra)(s9:Int × Int):Option (Step (Int × Int) (Unit ⊕ zpa)):=
 (bif decide (s9.2 < (a0.Entries.length:Int)) then (idx a0.Entries s9.2).bind fun v15=>(qQa v15.Mail).bind fun v17=>(z7a v17).bind fun v19=>(bif v19 then (zsa v17.Code s9.2).bind fun v22=>some (.out (.inr v22)) else ((bif decide (v15.Id<=s9.1) then some true else some (decide (a0.Next<=v15.Id))):Option Bool).bind fun (j24:Bool)=>(bif j24 then (zsa 19 s9.2).bind fun v27=>some (.out (.inr v27)) else ((q3a v15.Since).bind fun v30=>(bif (!v30) then some true else (q3a v15.Due).bind fun v33=>(bif (!v33) then some true else (bif decide (v15.Tries < 0) then some true else some (decide (1000000 < v15.Tries))))):Option Bool).bind fun (j29:Bool)=>(bif j29 then (zsa 3 s9.2).bind fun v38=>some (.out (.inr v38)) else (vla v15).bind fun v40=>(bif (!v40) then (zsa 5 s9.2).bind fun v43=>some (.out (.inr v43)) else some (.cont (v15.Id,(w64 (s9.2+1)))))))) else some (.out (.inl (()))))
noncomputable def vHa(a0:zra):Option zpa:=
 (bif decide (20 < (a0.Entries.length:Int)) then (zsa 2 ((-1))).bind fun v2=>some v2 else ((bif decide (a0.Next < 0) then some true else some (decide (1000000 < a0.Next))):Option Bool).bind fun (j4:Bool)=>(bif j4 then (zsa 3 ((-2))).bind fun v7=>some v7 else (iter (qqa a0) (((-1),0))).bind (Sum.elim (fun b10=>(ksa).bind fun v45=>some v45) (fun b11=>some b11))))
noncomputable def z3a(a0:List zba):Option (List zba):=
 (nilE a0.isEmpty (some ([])) ((app 879609302220 ([]:List zba) a0).bind fun v2=>some v2))
noncomputable def zPa(a0:List zea):Option (List zea):=
 (nilE a0.isEmpty (some ([])) ((app 3518437208883 ([]:List zea) a0).bind fun v2=>some v2))
noncomputable def yNa(v23:List zba)(s25:Int × Nat × (List zba)):Option (Step (Int × Nat × (List zba)) ((List zba) × Nat)):=
 (bif decide (s25.1 < (v23.length:Int)) then (idx s25.2.2 s25.1).bind fun v29=>(idx s25.2.2 s25.1).bind fun v31=>(qla v31.Mail).bind fun v33=>(JTa s25.2.1 s25.1).bind fun v35=>(idx s25.2.2 s25.1).bind fun v37=>(zPa v37.To).bind fun v39=>(idx s25.2.2 s25.1).bind fun v41=>(wib s25.2.1 s25.1).bind fun v43=>(idx ((List.set s25.2.2 (Int.toNat s25.1) ((zba.mk v41.Id v33 v41.Since v41.Tries v41.Due v41.To)))) s25.1).bind fun v45=>some (.cont ((w64 (s25.1+1)),(s25.2.1+1),(List.set ((List.set s25.2.2 (Int.toNat s25.1) ((zba.mk v41.Id v33 v41.Since v41.Tries v41.Due v41.To)))) (Int.toNat s25.1) ((zba.mk v45.Id v45.Mail v45.Since v45.Tries v45.Due v39))))) else some (.out ((s25.2.2,s25.2.1))))
def wPa(a1:kia)(s49:Int × (List zea)):Option (Step (Int × (List zea)) (List zea)):=
 (bif decide (s49.1 < (a1.Envelope.To.length:Int)) then (idx a1.Envelope.To s49.1).bind fun v53=>(app 3518437208883 s49.2 (([(zea.mk v53 0 false)]:List zea))).bind fun v55=>some (.cont ((w64 (s49.1+1)),v55)) else some (.out s49.2))
noncomputable def KDa(a0:zra)(a1:kia)(a2:Int):Option (zra × Int × zpa):=
 (vHa a0).bind fun v1=>(z7a v1).bind fun v3=>(bif v3 then some (((zra.mk ([]) 0),0,v1)) else (qQa a1).bind fun v6=>(z7a v6).bind fun v8=>(bif v8 then (zsa v6.Code ((-6))).bind fun v11=>some (((zra.mk ([]) 0),0,v11)) else (q3a a2).bind fun v13=>(bif (!v13) then (zsa 3 ((-7))).bind fun v16=>some (((zra.mk ([]) 0),0,v16)) else ((bif ((a0.Entries.length:Int)==20) then some true else some ((a0.Next==1000000))):Option Bool).bind fun (j18:Bool)=>(bif j18 then (zsa 2 ((-8))).bind fun v21=>some (((zra.mk ([]) 0),0,v21)) else (z3a a0.Entries).bind fun v23=>(iter (yNa v23) ((0,0,v23))).bind fun b26=>(qla a1).bind fun v47=>(iter (wPa a1) ((0,([]:List zea)))).bind fun b50=>(nall b26.2 (List.length b26.1)).bind fun v57=>(app 879609302220 b26.1 [(zba.mk a0.Next v47 a2 0 a2 b50)]).bind fun v59=>(ksa).bind fun v61=>some (((zra.mk v59 ((w64 (a0.Next+1)))),a0.Next,v61))))))
noncomputable def v7a(a0:Str):Option Str:=
 (vFa a0).bind fun v1=>some v1.2.1
noncomputable def vIa(v53:zba)(s55:Int × (List ((Int × Str) × Bool)) × (List (Str × Int))):Option (Step (Int × (List ((Int × Str) × Bool)) × (List (Str × Int))) ((List ((Int × Str) × Bool)) × (List (Str × Int)))):=
 (bif decide (s55.1 < (v53.To.length:Int)) then ((idx v53.To s55.1).bind fun v60=>(v7a v60.Recipient.Address).bind fun v62=>((bif v60.Busy then some ((!(((mget s55.2.1 ((v53.Id,v62))).getD false)))) else some false):Option Bool).bind fun (j64:Bool)=>(bif j64 then some (((mput s55.2.1 ((v53.Id,v62)) true),(mput s55.2.2 v62 ((w64 (((mget s55.2.2 v62).getD 0)+1)))))) else some ((s55.2.1,s55.2.2))):Option ((List ((Int × Str) × Bool)) × (List (Str × Int)))).bind fun (j59:(List ((Int × Str) × Bool)) × (List (Str × Int)))=>some (.cont ((w64 (s55.1+1)),j59.1,j59.2)) else some (.out ((s55.2.1,s55.2.2))))
noncomputable def wxa(a0:zra)(s49:Int × (List ((Int × Str) × Bool)) × (List (Str × Int))):Option (Step (Int × (List ((Int × Str) × Bool)) × (List (Str × Int))) ((List ((Int × Str) × Bool)) × (List (Str × Int)))):=
 (bif decide (s49.1 < (a0.Entries.length:Int)) then (idx a0.Entries s49.1).bind fun v53=>(iter (vIa v53) ((0,s49.2.1,s49.2.2))).bind fun b56=>some (.cont ((w64 (s49.1+1)),b56.1,b56.2)) else some (.out ((s49.2.1,s49.2.2))))
def vDa(a0:zra)(a1:zxa)(s7:Int):Option (Step Int (Unit ⊕ Int)):=
 (bif decide (s7 < (a0.Entries.length:Int)) then (idx a0.Entries s7).bind fun v13=>(bif (v13.Id==a1.Entry) then some (.out (.inr s7)) else some (.cont (w64 (s7+1)))) else some (.out (.inl (()))))
noncomputable def kVa(a1:zxa)(a2:Bool)(v19:zba)(s26:Int):Option (Step Int (Unit ⊕ (Int × zpa))):=
 (bif decide (s26 < (a1.To.length:Int)) then (idx a1.To s26).bind fun v32=>((bif decide (v32 < 0) then some true else (bif decide ((v19.To.length:Int)<=v32) then some true else (bif decide (0 < s26) then (idx a1.To ((w64 (s26 - 1)))).bind fun v38=>some (decide (v32<=v38)) else some false))):Option Bool).bind fun (j34:Bool)=>(bif j34 then (zsa 3 s26).bind fun v41=>some (.out (.inr ((0,v41)))) else (idx v19.To v32).bind fun v43=>(v7a v43.Recipient.Address).bind fun v45=>(bif (v45 !=a1.Domain) then (zsa 5 s26).bind fun v48=>some (.out (.inr ((0,v48)))) else ((idx v19.To v32).bind fun v51=>(bif (v51.Result !=0) then some true else (idx v19.To v32).bind fun v54=>some ((v54.Busy !=a2))):Option Bool).bind fun (j50:Bool)=>(bif j50 then (zsa 8 s26).bind fun v57=>some (.out (.inr ((0,v57)))) else some (.cont (w64 (s26+1)))))) else some (.out (.inl (()))))
noncomputable def woa(a0:zra)(a1:zxa)(a2:Bool):Option (Int × zpa):=
 (vHa a0).bind fun v1=>(z7a v1).bind fun v3=>(bif v3 then some ((0,v1)) else ((iter (vDa a0 a1) 0).bind (Sum.elim (fun b8=>some ((-1))) (fun b9=>some b9)):Option Int).bind fun (j6:Int)=>(bif decide (j6 < 0) then (zsa 6 ((-3))).bind fun v17=>some ((0,v17)) else (idx a0.Entries j6).bind fun v19=>((bif ((a1.To.length:Int)==0) then some true else some (decide ((v19.To.length:Int) < (a1.To.length:Int)))):Option Bool).bind fun (j21:Bool)=>(bif j21 then (zsa 2 ((-4))).bind fun v24=>some ((0,v24)) else (iter (kVa a1 a2 v19) 0).bind (Sum.elim (fun b27=>(ksa).bind fun v59=>some ((j6,v59))) (fun b28=>some ((b28.1,b28.2)))))))
noncomputable def Via(v10:zba)(s12:Int × (List ((Int × Str) × Bool)) × (List (Str × Int))):Option (Step (Int × (List ((Int × Str) × Bool)) × (List (Str × Int))) ((List ((Int × Str) × Bool)) × (List (Str × Int)))):=
 (bif decide (s12.1 < (v10.To.length:Int)) then ((idx v10.To s12.1).bind fun v17=>(v7a v17.Recipient.Address).bind fun v19=>((bif v17.Busy then some ((!(((mget s12.2.1 ((v10.Id,v19))).getD false)))) else some false):Option Bool).bind fun (j21:Bool)=>(bif j21 then some (((mput s12.2.1 ((v10.Id,v19)) true),(mput s12.2.2 v19 ((w64 (((mget s12.2.2 v19).getD 0)+1)))))) else some ((s12.2.1,s12.2.2))):Option ((List ((Int × Str) × Bool)) × (List (Str × Int)))).bind fun (j16:(List ((Int × Str) × Bool)) × (List (Str × Int)))=>some (.cont ((w64 (s12.1+1)),j16.1,j16.2)) else some (.out ((s12.2.1,s12.2.2))))
noncomputable def ZSa(a0:zra)(s6:Int × (List ((Int × Str) × Bool)) × (List (Str × Int))):Option (Step (Int × (List ((Int × Str) × Bool)) × (List (Str × Int))) ((List ((Int × Str) × Bool)) × (List (Str × Int)))):=
 (bif decide (s6.1 < (a0.Entries.length:Int)) then (idx a0.Entries s6.1).bind fun v10=>(iter (Via v10) ((0,s6.2.1,s6.2.2))).bind fun b13=>some (.cont ((w64 (s6.1+1)),b13.1,b13.2)) else some (.out ((s6.2.1,s6.2.2))))
noncomputable def ZTa(v29:List zba)(s31:Int × Nat × (List zba)):Option (Step (Int × Nat × (List zba)) ((List zba) × Nat)):=
 (bif decide (s31.1 < (v29.length:Int)) then (idx s31.2.2 s31.1).bind fun v35=>(idx s31.2.2 s31.1).bind fun v37=>(qla v37.Mail).bind fun v39=>(JTa s31.2.1 s31.1).bind fun v41=>(idx s31.2.2 s31.1).bind fun v43=>(zPa v43.To).bind fun v45=>(idx s31.2.2 s31.1).bind fun v47=>(wib s31.2.1 s31.1).bind fun v49=>(idx ((List.set s31.2.2 (Int.toNat s31.1) ((zba.mk v47.Id v39 v47.Since v47.Tries v47.Due v47.To)))) s31.1).bind fun v51=>some (.cont ((w64 (s31.1+1)),(s31.2.1+1),(List.set ((List.set s31.2.2 (Int.toNat s31.1) ((zba.mk v47.Id v39 v47.Since v47.Tries v47.Due v47.To)))) (Int.toNat s31.1) ((zba.mk v51.Id v51.Mail v51.Since v51.Tries v51.Due v45))))) else some (.out ((s31.2.2,s31.2.1))))
def w4a(a1:zxa)(v1:Int × zpa)(b32:(List zba) × Nat)(s53:Int × (List zba)):Option (Step (Int × (List zba)) (List zba)):=
 (bif decide (s53.1 < (a1.To.length:Int)) then (idx a1.To s53.1).bind fun v57=>(idx s53.2 v1.1).bind fun v59=>(nown b32.2 v1.1).bind fun v61=>(idx s53.2 v1.1).bind fun v63=>(idx s53.2 v1.1).bind fun v65=>(idx v65.To v57).bind fun v67=>(idx s53.2 v1.1).bind fun v69=>(idx v69.To v57).bind fun v71=>some (.cont ((w64 (s53.1+1)),(List.set s53.2 (Int.toNat v1.1) ((zba.mk v69.Id v69.Mail v69.Since v69.Tries v69.Due ((List.set v69.To (Int.toNat v57) ((zea.mk v71.Recipient v71.Result true))))))))) else some (.out s53.2))
noncomputable def Zta(a0:zra)(a1:zxa):Option (zra × zpa):=
 (woa a0 a1 false).bind fun v1=>(z7a v1.2).bind fun v3=>(bif v3 then some (((zra.mk ([]) 0),v1.2)) else (iter (ZSa a0) ((0,([]:List ((Int × Str) × Bool)),([]:List (Str × Int))))).bind fun b7=>((bif decide (2<=((mget b7.2 a1.Domain).getD 0)) then some true else some (((mget b7.1 ((a1.Entry,a1.Domain))).getD false))):Option Bool).bind fun (j24:Bool)=>(bif j24 then (zsa 8 ((-5))).bind fun v27=>some (((zra.mk ([]) 0),v27)) else (z3a a0.Entries).bind fun v29=>(iter (ZTa v29) ((0,0,v29))).bind fun b32=>(iter (w4a a1 v1 b32) ((0,b32.1))).bind fun b54=>(ksa).bind fun v73=>some (((zra.mk b54 a0.Next),v73))))
def qKa(a1:Int)(s17:Int × Int):Option (Step (Int × Int) Int):=
 ((bif decide (s17.2 < a1) then some (decide (s17.1 < 14400)) else some false):Option Bool).bind fun (j20:Bool)=>(bif j20 then some (.cont ((min ((w64 (2 * s17.1))) 14400),(w64 (s17.2+1)))) else some (.out s17.1))
noncomputable def Zua(a0:Int)(a1:Int)(a2:Int):Option (Int × Bool × zpa):=
 (jwa (([a0,a2]:List Int))).bind fun v1=>(bif (!v1) then (zsa 3 ((-2))).bind fun v4=>some ((0,false,v4)) else ((bif decide (a1 < 1) then some true else some (decide (1000000 < a1))):Option Bool).bind fun (j6:Bool)=>(bif j6 then (zsa 3 ((-3))).bind fun v9=>some ((0,false,v9)) else (bif decide (a2 < a0) then (zsa 19 ((-4))).bind fun v12=>some ((0,false,v12)) else (bif decide ((w64 (a0+345600))<=a2) then (ksa).bind fun v15=>some ((0,false,v15)) else (iter (qKa a1) ((60,1))).bind fun b18=>(ksa).bind fun v23=>some (((min (min ((w64 (a2+b18))) ((w64 (a0+345600)))) 68719476736),true,v23))))))
def w5a(a2:List Int)(s10:Int):Option (Step Int (Unit ⊕ Int)):=
 (bif decide (s10 < (a2.length:Int)) then (idx a2 s10).bind fun v16=>((bif decide (v16 < 1) then some true else some (decide (4 < v16))):Option Bool).bind fun (j18:Bool)=>(bif j18 then some (.out (.inr s10)) else some (.cont (w64 (s10+1)))) else some (.out (.inl (()))))
noncomputable def ZUa(v34:List zba)(s36:Int × Nat × (List zba)):Option (Step (Int × Nat × (List zba)) ((List zba) × Nat)):=
 (bif decide (s36.1 < (v34.length:Int)) then (idx s36.2.2 s36.1).bind fun v40=>(idx s36.2.2 s36.1).bind fun v42=>(qla v42.Mail).bind fun v44=>(JTa s36.2.1 s36.1).bind fun v46=>(idx s36.2.2 s36.1).bind fun v48=>(zPa v48.To).bind fun v50=>(idx s36.2.2 s36.1).bind fun v52=>(wib s36.2.1 s36.1).bind fun v54=>(idx ((List.set s36.2.2 (Int.toNat s36.1) ((zba.mk v52.Id v44 v52.Since v52.Tries v52.Due v52.To)))) s36.1).bind fun v56=>some (.cont ((w64 (s36.1+1)),(s36.2.1+1),(List.set ((List.set s36.2.2 (Int.toNat s36.1) ((zba.mk v52.Id v44 v52.Since v52.Tries v52.Due v52.To)))) (Int.toNat s36.1) ((zba.mk v56.Id v56.Mail v56.Since v56.Tries v56.Due v50))))) else some (.out ((s36.2.2,s36.2.1))))
def w6a(a2:List Int)(s62:Int):Option (Step Int (Unit ⊕ Int)):=
 (bif decide (s62 < (a2.length:Int)) then (idx a2 s62).bind fun v68=>((bif (v68==2) then some true else some ((v68==4))):Option Bool).bind fun (j70:Bool)=>(bif j70 then some (.out (.inr s62)) else some (.cont (w64 (s62+1)))) else some (.out (.inl (()))))
def vma(a1:zxa)(a2:List Int)(v1:Int × zpa)(b37:(List zba) × Nat)(j60:Bool × (List zba))(s90:Int × (List zfa) × (List zba)):Option (Step (Int × (List zfa) × (List zba)) ((List zfa) × (List zba))):=
 (bif decide (s90.1 < (a1.To.length:Int)) then ((idx a1.To s90.1).bind fun v95=>(idx a2 s90.1).bind fun v97=>(nown b37.2 v1.1).bind fun v99=>(idx s90.2.2 v1.1).bind fun v101=>(idx s90.2.2 v1.1).bind fun v103=>(idx v103.To v95).bind fun v105=>(idx s90.2.2 v1.1).bind fun v107=>(idx v107.To v95).bind fun v109=>(((bif (v97==2) then some true else some ((v97==4))):Option Bool).bind fun (j112:Bool)=>(bif j112 then some j60.1 else some false):Option Bool).bind fun (j111:Bool)=>(bif j111 then some ((s90.2.1,(List.set s90.2.2 (Int.toNat v1.1) ((zba.mk v107.Id v107.Mail v107.Since v107.Tries v107.Due ((List.set v107.To (Int.toNat v95) ((zea.mk v109.Recipient v109.Result false))))))))) else (((bif (v97==2) then some true else some ((v97==4))):Option Bool).bind fun (j117:Bool)=>(bif j117 then some 3 else some v97):Option Int).bind fun (j116:Int)=>(nown b37.2 v1.1).bind fun v120=>(idx ((List.set s90.2.2 (Int.toNat v1.1) ((zba.mk v107.Id v107.Mail v107.Since v107.Tries v107.Due ((List.set v107.To (Int.toNat v95) ((zea.mk v109.Recipient v109.Result false)))))))) v1.1).bind fun v122=>(idx ((List.set s90.2.2 (Int.toNat v1.1) ((zba.mk v107.Id v107.Mail v107.Since v107.Tries v107.Due ((List.set v107.To (Int.toNat v95) ((zea.mk v109.Recipient v109.Result false)))))))) v1.1).bind fun v124=>(idx v124.To v95).bind fun v126=>(idx ((List.set s90.2.2 (Int.toNat v1.1) ((zba.mk v107.Id v107.Mail v107.Since v107.Tries v107.Due ((List.set v107.To (Int.toNat v95) ((zea.mk v109.Recipient v109.Result false)))))))) v1.1).bind fun v128=>(idx v128.To v95).bind fun v130=>(idx ((List.set ((List.set s90.2.2 (Int.toNat v1.1) ((zba.mk v107.Id v107.Mail v107.Since v107.Tries v107.Due ((List.set v107.To (Int.toNat v95) ((zea.mk v109.Recipient v109.Result false)))))))) (Int.toNat v1.1) ((zba.mk v128.Id v128.Mail v128.Since v128.Tries v128.Due ((List.set v128.To (Int.toNat v95) ((zea.mk v130.Recipient j116 v130.Busy)))))))) v1.1).bind fun v132=>(app 5864062014805 s90.2.1 (([(zfa.mk v132.Id v95 j116)]:List zfa))).bind fun v134=>some ((v134,(List.set ((List.set s90.2.2 (Int.toNat v1.1) ((zba.mk v107.Id v107.Mail v107.Since v107.Tries v107.Due ((List.set v107.To (Int.toNat v95) ((zea.mk v109.Recipient v109.Result false)))))))) (Int.toNat v1.1) ((zba.mk v128.Id v128.Mail v128.Since v128.Tries v128.Due ((List.set v128.To (Int.toNat v95) ((zea.mk v130.Recipient j116 v130.Busy)))))))))):Option ((List zfa) × (List zba))).bind fun (j94:(List zfa) × (List zba))=>some (.cont ((w64 (s90.1+1)),j94.1,j94.2)) else some (.out ((s90.2.1,s90.2.2))))
noncomputable def Zva(a0:zra)(a1:zxa)(a2:List Int)(a3:Int):Option (zra × (List zfa) × zpa):=
 (woa a0 a1 true).bind fun v1=>(z7a v1.2).bind fun v3=>(bif v3 then some (((zra.mk ([]) 0),[],v1.2)) else (bif ((a2.length:Int) !=(a1.To.length:Int)) then (zsa 9 ((-6))).bind fun v7=>some (((zra.mk ([]) 0),[],v7)) else ((iter (w5a a2) 0).bind (Sum.elim (fun b11=>some ((-1))) (fun b12=>some b12)):Option Int).bind fun (j9:Int)=>(bif decide (0<=j9) then (zsa 3 ((-6))).bind fun v22=>some (((zra.mk ([]) 0),[],v22)) else (q3a a3).bind fun v24=>(bif (!v24) then (zsa 3 ((-7))).bind fun v27=>some (((zra.mk ([]) 0),[],v27)) else (idx a0.Entries v1.1).bind fun v29=>(bif decide (a3 < v29.Since) then (zsa 19 ((-7))).bind fun v32=>some (((zra.mk ([]) 0),[],v32)) else (z3a a0.Entries).bind fun v34=>(iter (ZUa v34) ((0,0,v34))).bind fun b37=>(idx b37.1 v1.1).bind fun v58=>(((iter (w6a a2) 0).bind (Sum.elim (fun b63=>some ((-1))) (fun b64=>some b64)):Option Int).bind fun (j61:Int)=>(bif decide (0<=j61) then (idx b37.1 v1.1).bind fun v74=>(idx b37.1 v1.1).bind fun v76=>(idx ((List.set b37.1 (Int.toNat v1.1) ((zba.mk v76.Id v76.Mail v76.Since ((min ((w64 (v74.Tries+1))) 1000000)) v76.Due v76.To)))) v1.1).bind fun v78=>(idx ((List.set b37.1 (Int.toNat v1.1) ((zba.mk v76.Id v76.Mail v76.Since ((min ((w64 (v74.Tries+1))) 1000000)) v76.Due v76.To)))) v1.1).bind fun v80=>(Zua v78.Since v80.Tries a3).bind fun v82=>((bif v82.2.1 then (idx ((List.set b37.1 (Int.toNat v1.1) ((zba.mk v76.Id v76.Mail v76.Since ((min ((w64 (v74.Tries+1))) 1000000)) v76.Due v76.To)))) v1.1).bind fun v86=>(idx ((List.set b37.1 (Int.toNat v1.1) ((zba.mk v76.Id v76.Mail v76.Since ((min ((w64 (v74.Tries+1))) 1000000)) v76.Due v76.To)))) v1.1).bind fun v88=>some ((List.set ((List.set b37.1 (Int.toNat v1.1) ((zba.mk v76.Id v76.Mail v76.Since ((min ((w64 (v74.Tries+1))) 1000000)) v76.Due v76.To)))) (Int.toNat v1.1) ((zba.mk v88.Id v88.Mail v88.Since v88.Tries ((max v82.1 v86.Due)) v88.To)))) else some ((List.set b37.1 (Int.toNat v1.1) ((zba.mk v76.Id v76.Mail v76.Since ((min ((w64 (v74.Tries+1))) 1000000)) v76.Due v76.To))))):Option (List zba)).bind fun (j84:List zba)=>some ((v82.2.1,j84)) else some ((true,b37.1))):Option (Bool × (List zba))).bind fun (j60:Bool × (List zba))=>(iter (vma a1 a2 v1 b37 j60) ((0,([]:List zfa),j60.2))).bind fun b91=>((idx b91.2 v1.1).bind fun v137=>(vla v137).bind fun v139=>(bif (!v139) then ((cut3 b91.2 v1.1 ((w64 (v1.1+1))) ((b91.2.length:Int))).bind fun v143=>(bif (v1.1==(w64 (v1.1+1))) then some b91.2 else (cut b91.2 0 v1.1).bind fun v146=>(cut b91.2 ((w64 (v1.1+1))) (b91.2.length:Int)).bind fun v148=>(shft b91.2 v1.1 ((w64 (v1.1+1)))).bind fun v150=>(Yia v150 (((((Int.toNat v1.1)+(b91.2.length - (Int.toNat ((w64 (v1.1+1)))))):Nat):Int)) ((b91.2.length:Int))).bind fun v152=>some ((List.take ((Int.toNat v1.1)+(b91.2.length - (Int.toNat ((w64 (v1.1+1)))))) ((clr0 v150 (Int.toNat (((((Int.toNat v1.1)+(b91.2.length - (Int.toNat ((w64 (v1.1+1)))))):Nat):Int))) ((zba.mk 0 ((kia.mk ((zGa.mk (([]:Str)) ([]) (([]:Str)))) ((zya.mk ([]) ([]))))) 0 0 0 ([])))))))):Option (List zba)).bind fun (j142:List zba)=>some j142 else some b91.2):Option (List zba)).bind fun (j136:List zba)=>(ksa).bind fun v154=>some (((zra.mk j136 a0.Next),b91.1,v154)))))))
def wpa(a0:Int):Option Bool:=
 (R_In a0 ((-68719476736)) 68719476736).bind fun v1=>some v1
def v8a(s2:Int × Int)(j8:Int):Option (Step (Int × Int) (Int ⊕ Int)):=
 some (.cont (j8,(w64 (s2.2+1))))
def vaa(a0:zba)(s2:Int × Int):Option (Step (Int × Int) (Int ⊕ Int)):=
 (bif decide (s2.2 < (a0.Mail.Envelope.To.length:Int)) then (idx a0.To s2.2).bind fun v9=>((idx a0.Mail.Envelope.To s2.2).bind fun v12=>(bif (!(kWa [(v9.Recipient.Address==v12.Address),(v9.Recipient.Notify==v12.Notify)])) then some true else (bif (v9.Result !=0) then (bif (v9.Result !=1) then (bif (v9.Result !=3) then some true else (bif v9.Busy then some ((v9.Result !=0)) else some false)) else (bif v9.Busy then some ((v9.Result !=0)) else some false)) else (bif v9.Busy then some ((v9.Result !=0)) else some false))):Option Bool).bind fun (j11:Bool)=>(bif j11 then some (.out (.inr 5)) else (bif (v9.Result==0) then (v8a s2 (w64 (s2.1+1))) else (v8a s2 s2.1))) else some (.out (.inl s2.1)))
noncomputable def wQa(a0:zba):Option Int:=
 (bif ((a0.To.length:Int) !=(a0.Mail.Envelope.To.length:Int)) then some 5 else (iter (vaa a0) ((0,0))).bind (Sum.elim (fun b3=>(bif (b3==0) then some 5 else some 0)) (fun b4=>some b4)))
noncomputable def qDa(a0:zra)(s9:Int × Int):Option (Step (Int × Int) (Unit ⊕ zpa)):=
 (bif decide (s9.2 < (a0.Entries.length:Int)) then (idx a0.Entries s9.2).bind fun v15=>(vka v15.Mail).bind fun v17=>(bif (v17.Code !=0) then (R_At v17.Code s9.2).bind fun v20=>some (.out (.inr v20)) else (R_In v15.Id ((w64 (s9.1+1))) ((w64 (a0.Next - 1)))).bind fun v22=>(bif (!v22) then (R_At 19 s9.2).bind fun v25=>some (.out (.inr v25)) else ((wpa v15.Since).bind fun v28=>(bif (!v28) then some true else (wpa v15.Due).bind fun v31=>(bif (!v31) then some true else (R_In v15.Tries 0 1000000).bind fun v34=>some ((!v34)))):Option Bool).bind fun (j27:Bool)=>(bif j27 then (R_At 3 s9.2).bind fun v37=>some (.out (.inr v37)) else (wQa v15).bind fun v39=>(bif (v39 !=0) then (wQa v15).bind fun v42=>(R_At v42 s9.2).bind fun v44=>some (.out (.inr v44)) else some (.cont (v15.Id,(w64 (s9.2+1)))))))) else some (.out (.inl (()))))
noncomputable def vna(a0:zra):Option zpa:=
 (bif decide (20 < (a0.Entries.length:Int)) then (R_At 2 ((-1))).bind fun v2=>some v2 else (R_In a0.Next 0 1000000).bind fun v4=>(bif (!v4) then (R_At 3 ((-2))).bind fun v7=>some v7 else (iter (qDa a0) (((-1),0))).bind (Sum.elim (fun b10=>some ((zpa.mk 0 0))) (fun b11=>some b11))))
def wIa(a0:zra)(s29:Int × Nat × (List zba)):Option (Step (Int × Nat × (List zba)) ((List zba) × Nat)):=
 (bif decide (s29.1 < (a0.Entries.length:Int)) then (idx a0.Entries s29.1).bind fun v33=>(app 3518437208883 (([]:List zea)) v33.To).bind fun v35=>(nall s29.2.1 (List.length s29.2.2)).bind fun v37=>(app 879609302220 s29.2.2 [(zba.mk v33.Id v33.Mail v33.Since v33.Tries v33.Due v35)]).bind fun v39=>some (.cont ((w64 (s29.1+1)),(s29.2.1+1),v39)) else some (.out ((s29.2.2,s29.2.1))))
def QLa(a1:kia)(s41:Int × (List zea)):Option (Step (Int × (List zea)) (List zea)):=
 (bif decide (s41.1 < (a1.Envelope.To.length:Int)) then (idx a1.Envelope.To s41.1).bind fun v45=>(app 3518437208883 s41.2 (([(zea.mk v45 0 false)]:List zea))).bind fun v47=>some (.cont ((w64 (s41.1+1)),v47)) else some (.out s41.2))
noncomputable def Vja(a0:zra)(a1:kia)(a2:Int):Option (zra × Int × zpa):=
 (vna a0).bind fun v1=>(((bif (v1.Code==0) then (vka a1).bind fun v6=>some ((v6.Code !=0)) else some false):Option Bool).bind fun (j4:Bool)=>(bif j4 then (vka a1).bind fun v9=>(R_At v9.Code ((-6))).bind fun v11=>some ((v11.Code,v11.Index)) else some ((v1.Code,v1.Index))):Option (Int × Int)).bind fun (j3:Int × Int)=>(((bif (j3.1==0) then (wpa a2).bind fun v16=>some ((!v16)) else some false):Option Bool).bind fun (j14:Bool)=>(bif j14 then (R_At 3 ((-7))).bind fun v19=>some ((v19.Code,v19.Index)) else some ((j3.1,j3.2))):Option (Int × Int)).bind fun (j13:Int × Int)=>(((bif (j13.1==0) then (bif ((a0.Entries.length:Int)==20) then some true else some ((a0.Next==1000000))) else some false):Option Bool).bind fun (j22:Bool)=>(bif j22 then (R_At 2 ((-8))).bind fun v26=>some ((v26.Code,v26.Index)) else some ((j13.1,j13.2))):Option (Int × Int)).bind fun (j21:Int × Int)=>(bif (j21.1 !=0) then some (((zra.mk ([]) 0),0,(zpa.mk j21.1 j21.2))) else (iter (wIa a0) ((0,0,([]:List zba)))).bind fun b30=>(iter (QLa a1) ((0,([]:List zea)))).bind fun b42=>(nall b30.2 (List.length b30.1)).bind fun v49=>(app 879609302220 b30.1 [(zba.mk a0.Next a1 a2 0 a2 b42)]).bind fun v51=>some (((zra.mk v51 ((w64 (a0.Next+1)))),a0.Next,(zpa.mk j21.1 j21.2))))
noncomputable def Zwa(a0:zba)(a1:Int):Option Str:=
 (idx a0.To a1).bind fun v1=>(Zna v1.Recipient.Address).bind fun v3=>some v3
noncomputable def yxa(a0:zba)(a1:Str)(s1:Int):Option (Step Int (Unit ⊕ Bool)):=
 (bif decide (s1 < (a0.To.length:Int)) then ((idx a0.To s1).bind fun v8=>(bif v8.Busy then (Zwa a0 s1).bind fun v11=>some ((v11==a1)) else some false):Option Bool).bind fun (j7:Bool)=>(bif j7 then some (.out (.inr true)) else some (.cont (w64 (s1+1)))) else some (.out (.inl (()))))
noncomputable def yna(a0:zba)(a1:Str):Option Bool:=
 (iter (yxa a0 a1) 0).bind (Sum.elim (fun b2=>some false) (fun b3=>some b3))
noncomputable def wya(a0:zra)(a1:Str)(s1:Int × Int):Option (Step (Int × Int) Int):=
 (bif decide (s1.2 < (a0.Entries.length:Int)) then ((idx a0.Entries s1.2).bind fun v6=>(yna v6 a1).bind fun v8=>(bif v8 then some ((w64 (s1.1+1))) else some s1.1):Option Int).bind fun (j5:Int)=>some (.cont (j5,(w64 (s1.2+1)))) else some (.out s1.1))
noncomputable def jza(a0:zra)(a1:Str):Option Int:=
 (iter (wya a0 a1) ((0,0))).bind fun b2=>some b2
def qca(a0:zra)(a1:zxa)(s1:Int × Int):Option (Step (Int × Int) Int):=
 (bif decide (s1.2 < (a0.Entries.length:Int)) then ((idx a0.Entries s1.2).bind fun v6=>(bif (v6.Id==a1.Entry) then some s1.2 else some s1.1):Option Int).bind fun (j5:Int)=>some (.cont (j5,(w64 (s1.2+1)))) else some (.out s1.1))
noncomputable def kFa(a1:zxa)(a2:Bool)(v12:zba)(s19:Int × Int):Option (Step (Int × Int) (Unit ⊕ (Int × zpa))):=
 (bif decide (s19.2 < (a1.To.length:Int)) then (idx a1.To s19.2).bind fun v25=>(R_In v25 ((w64 (s19.1+1))) ((w64 ((v12.To.length:Int) - 1)))).bind fun v27=>(bif (!v27) then (R_At 3 s19.2).bind fun v30=>some (.out (.inr ((0,v30)))) else (Zwa v12 v25).bind fun v32=>(bif (v32 !=a1.Domain) then (R_At 5 s19.2).bind fun v35=>some (.out (.inr ((0,v35)))) else ((idx v12.To v25).bind fun v38=>(bif (v38.Result !=0) then some true else (idx v12.To v25).bind fun v41=>some ((v41.Busy !=a2))):Option Bool).bind fun (j37:Bool)=>(bif j37 then (R_At 8 s19.2).bind fun v44=>some (.out (.inr ((0,v44)))) else some (.cont (v25,(w64 (s19.2+1))))))) else some (.out (.inl (()))))
noncomputable def vba(a0:zra)(a1:zxa)(a2:Bool):Option (Int × zpa):=
 (iter (qca a0 a1) (((-1),0))).bind fun b2=>(bif decide (b2 < 0) then (R_At 6 ((-3))).bind fun v10=>some ((0,v10)) else (idx a0.Entries b2).bind fun v12=>(R_In ((a1.To.length:Int)) 1 ((v12.To.length:Int))).bind fun v14=>(bif (!v14) then (R_At 2 ((-4))).bind fun v17=>some ((0,v17)) else (iter (kFa a1 a2 v12) (((-1),0))).bind (Sum.elim (fun b20=>some ((b2,(zpa.mk 0 0)))) (fun b21=>some ((b21.1,b21.2))))))
def QMa(a0:zra)(s20:Int × Nat × (List zba)):Option (Step (Int × Nat × (List zba)) ((List zba) × Nat)):=
 (bif decide (s20.1 < (a0.Entries.length:Int)) then (idx a0.Entries s20.1).bind fun v24=>(app 3518437208883 (([]:List zea)) v24.To).bind fun v26=>(nall s20.2.1 (List.length s20.2.2)).bind fun v28=>(app 879609302220 s20.2.2 [(zba.mk v24.Id v24.Mail v24.Since v24.Tries v24.Due v26)]).bind fun v30=>some (.cont ((w64 (s20.1+1)),(s20.2.1+1),v30)) else some (.out ((s20.2.2,s20.2.1))))
def jAa(a1:zxa)(v4:Int × zpa)(b21:(List zba) × Nat)(s32:Int × (List zba)):Option (Step (Int × (List zba)) (List zba)):=
 (bif decide (s32.1 < (a1.To.length:Int)) then (idx s32.2 v4.1).bind fun v36=>(nown b21.2 v4.1).bind fun v38=>(idx s32.2 v4.1).bind fun v40=>(idx a1.To s32.1).bind fun v42=>(idx s32.2 v4.1).bind fun v44=>(idx v44.To v42).bind fun v46=>(idx s32.2 v4.1).bind fun v48=>(idx v48.To v42).bind fun v50=>some (.cont ((w64 (s32.1+1)),(List.set s32.2 (Int.toNat v4.1) ((zba.mk v48.Id v48.Mail v48.Since v48.Tries v48.Due ((List.set v48.To (Int.toNat v42) ((zea.mk v50.Recipient v50.Result true))))))))) else some (.out s32.2))
noncomputable def Vka(a0:zra)(a1:zxa):Option (zra × zpa):=
 (vna a0).bind fun v1=>(bif (v1.Code !=0) then some (((zra.mk ([]) 0),v1)) else (vba a0 a1 false).bind fun v4=>(((bif (v4.2.Code==0) then (jza a0 a1.Domain).bind fun v9=>(bif decide (2<=v9) then some true else (idx a0.Entries v4.1).bind fun v12=>(yna v12 a1.Domain).bind fun v14=>some v14) else some false):Option Bool).bind fun (j7:Bool)=>(bif j7 then (R_At 8 ((-5))).bind fun v17=>some ((v17.Code,v17.Index)) else some ((v4.2.Code,v4.2.Index))):Option (Int × Int)).bind fun (j6:Int × Int)=>(bif (j6.1 !=0) then some (((zra.mk ([]) 0),(zpa.mk j6.1 j6.2))) else (iter (QMa a0) ((0,0,([]:List zba)))).bind fun b21=>(iter (jAa a1 v4 b21) ((0,b21.1))).bind fun b33=>some (((zra.mk b33 a0.Next),(zpa.mk j6.1 j6.2)))))
def kTb(a0:Int):Option Int:=
 (bif decide (8 < a0) then some 14400 else (nng ((wu64 ((w64 (a0 - 1)))))).bind fun v2=>some ((iShl 60 ((wu64 ((w64 (a0 - 1))))))))
def YEa(a0:Int)(a1:Int)(a2:Int):Option (Int × Bool × zpa):=
 ((R_In a0 ((-68719476736)) 68719476736).bind fun v2=>(bif (!v2) then some true else (R_In a2 ((-68719476736)) 68719476736).bind fun v5=>some ((!v5))):Option Bool).bind fun (j1:Bool)=>(bif j1 then (R_At 3 ((-2))).bind fun v8=>some ((0,false,v8)) else (R_In a1 1 1000000).bind fun v10=>(bif (!v10) then (R_At 3 ((-3))).bind fun v13=>some ((0,false,v13)) else (bif decide (a2 < a0) then (R_At 19 ((-4))).bind fun v16=>some ((0,false,v16)) else (bif decide (345600<=(w64 (a2 - a0))) then some ((0,false,(zpa.mk 0 0))) else (kTb a1).bind fun v19=>((bif decide ((w64 (a0+345600)) < (w64 (a2+v19))) then some ((w64 (a0+345600))) else some ((w64 (a2+v19)))):Option Int).bind fun (j21:Int)=>((bif decide (68719476736 < j21) then some 68719476736 else some j21):Option Int).bind fun (j23:Int)=>some ((j23,true,(zpa.mk 0 0)))))))
def kPa(a2:List Int)(s13:Bool × Int × Int × Int):Option (Step (Bool × Int × Int × Int) (Bool × Int × Int)):=
 ((bif decide (s13.2.1 < (a2.length:Int)) then some ((s13.2.2.1==0)) else some false):Option Bool).bind fun (j16:Bool)=>(bif j16 then (((idx a2 s13.2.1).bind fun v21=>(R_In v21 1 4).bind fun v23=>(bif (!v23) then (R_At 3 ((-6))).bind fun v26=>some ((v26.Code,v26.Index)) else some ((s13.2.2.1,s13.2.2.2))):Option (Int × Int)).bind fun (j20:Int × Int)=>(bif s13.1 then some ((true,j20.1,j20.2)) else (idx a2 s13.2.1).bind fun v29=>(bif (v29==2) then some ((true,j20.1,j20.2)) else (idx a2 s13.2.1).bind fun v32=>some (((v32==4),j20.1,j20.2)))):Option (Bool × Int × Int)).bind fun (j19:Bool × Int × Int)=>some (.cont (j19.1,(w64 (s13.2.1+1)),j19.2.1,j19.2.2)) else some (.out ((s13.1,s13.2.2.1,s13.2.2.2))))
def Zca(a0:zra)(s51:Int × Nat × (List zba)):Option (Step (Int × Nat × (List zba)) ((List zba) × Nat)):=
 (bif decide (s51.1 < (a0.Entries.length:Int)) then (idx a0.Entries s51.1).bind fun v55=>(app 3518437208883 (([]:List zea)) v55.To).bind fun v57=>(nall s51.2.1 (List.length s51.2.2)).bind fun v59=>(app 879609302220 s51.2.2 [(zba.mk v55.Id v55.Mail v55.Since v55.Tries v55.Due v57)]).bind fun v61=>some (.cont ((w64 (s51.1+1)),(s51.2.1+1),v61)) else some (.out ((s51.2.2,s51.2.1))))
def qRa(a1:zxa)(a2:List Int)(j3:Int × Int × Int)(b52:(List zba) × Nat)(j63:Int × (List zba))(s88:Int × (List zfa) × (List zba)):Option (Step (Int × (List zfa) × (List zba)) ((List zfa) × (List zba))):=
 (bif decide (s88.1 < (a1.To.length:Int)) then ((idx a2 s88.1).bind fun v93=>(((bif (v93==2) then some true else some ((v93==4))):Option Bool).bind fun (j96:Bool)=>(bif j96 then some j63.1 else some v93):Option Int).bind fun (j95:Int)=>(idx s88.2.2 j3.1).bind fun v99=>(nown b52.2 j3.1).bind fun v101=>(idx s88.2.2 j3.1).bind fun v103=>(idx a1.To s88.1).bind fun v105=>(idx s88.2.2 j3.1).bind fun v107=>(idx v107.To v105).bind fun v109=>(idx s88.2.2 j3.1).bind fun v111=>(idx v111.To v105).bind fun v113=>(idx ((List.set s88.2.2 (Int.toNat j3.1) ((zba.mk v111.Id v111.Mail v111.Since v111.Tries v111.Due ((List.set v111.To (Int.toNat v105) ((zea.mk v113.Recipient v113.Result false)))))))) j3.1).bind fun v115=>(nown b52.2 j3.1).bind fun v117=>(idx ((List.set s88.2.2 (Int.toNat j3.1) ((zba.mk v111.Id v111.Mail v111.Since v111.Tries v111.Due ((List.set v111.To (Int.toNat v105) ((zea.mk v113.Recipient v113.Result false)))))))) j3.1).bind fun v119=>(idx a1.To s88.1).bind fun v121=>(idx ((List.set s88.2.2 (Int.toNat j3.1) ((zba.mk v111.Id v111.Mail v111.Since v111.Tries v111.Due ((List.set v111.To (Int.toNat v105) ((zea.mk v113.Recipient v113.Result false)))))))) j3.1).bind fun v123=>(idx v123.To v121).bind fun v125=>(idx ((List.set s88.2.2 (Int.toNat j3.1) ((zba.mk v111.Id v111.Mail v111.Since v111.Tries v111.Due ((List.set v111.To (Int.toNat v105) ((zea.mk v113.Recipient v113.Result false)))))))) j3.1).bind fun v127=>(idx v127.To v121).bind fun v129=>(bif (j95 !=0) then (idx a1.To s88.1).bind fun v132=>(app 5864062014805 s88.2.1 (([(zfa.mk a1.Entry v132 j95)]:List zfa))).bind fun v134=>some ((v134,(List.set ((List.set s88.2.2 (Int.toNat j3.1) ((zba.mk v111.Id v111.Mail v111.Since v111.Tries v111.Due ((List.set v111.To (Int.toNat v105) ((zea.mk v113.Recipient v113.Result false)))))))) (Int.toNat j3.1) ((zba.mk v127.Id v127.Mail v127.Since v127.Tries v127.Due ((List.set v127.To (Int.toNat v121) ((zea.mk v129.Recipient j95 v129.Busy))))))))) else some ((s88.2.1,(List.set ((List.set s88.2.2 (Int.toNat j3.1) ((zba.mk v111.Id v111.Mail v111.Since v111.Tries v111.Due ((List.set v111.To (Int.toNat v105) ((zea.mk v113.Recipient v113.Result false)))))))) (Int.toNat j3.1) ((zba.mk v127.Id v127.Mail v127.Since v127.Tries v127.Due ((List.set v127.To (Int.toNat v121) ((zea.mk v129.Recipient j95 v129.Busy)))))))))):Option ((List zfa) × (List zba))).bind fun (j92:(List zfa) × (List zba))=>some (.cont ((w64 (s88.1+1)),j92.1,j92.2)) else some (.out ((s88.2.1,s88.2.2))))
def vJa(b89:(List zfa) × (List zba))(s137:Int × (List zba))(s142:Bool × Int):Option (Step (Bool × Int) Bool):=
 (idx b89.2 s137.1).bind fun v145=>(idx b89.2 s137.1).bind fun v147=>(bif decide (s142.2 < (v147.To.length:Int)) then ((bif s142.1 then some true else (idx b89.2 s137.1).bind fun v152=>(idx b89.2 s137.1).bind fun v154=>(idx v154.To s142.2).bind fun v156=>some ((v156.Result==0))):Option Bool).bind fun (j150:Bool)=>some (.cont (j150,(w64 (s142.2+1)))) else some (.out s142.1))
noncomputable def qSa(b89:(List zfa) × (List zba))(s137:Int × (List zba)):Option (Step (Int × (List zba)) (List zba)):=
 (bif decide (s137.1 < (b89.2.length:Int)) then ((iter (vJa b89 s137) ((false,0))).bind fun b143=>(bif b143 then (idx b89.2 s137.1).bind fun v159=>(idx b89.2 s137.1).bind fun v161=>(app 879609302220 s137.2 (([v161]:List zba))).bind fun v163=>some v163 else some s137.2):Option (List zba)).bind fun (j141:List zba)=>some (.cont ((w64 (s137.1+1)),j141)) else some (.out s137.2))
noncomputable def jBa(a0:zra)(a1:zxa)(a2:List Int)(a3:Int):Option (zra × (List zfa) × zpa):=
 (vna a0).bind fun v1=>((bif (v1.Code==0) then (vba a0 a1 true).bind fun v5=>some ((v5.1,v5.2.Code,v5.2.Index)) else some ((0,v1.Code,v1.Index))):Option (Int × Int × Int)).bind fun (j3:Int × Int × Int)=>(((bif (j3.2.1==0) then some (((a2.length:Int) !=(a1.To.length:Int))) else some false):Option Bool).bind fun (j8:Bool)=>(bif j8 then (R_At 9 ((-6))).bind fun v11=>some ((v11.Code,v11.Index)) else some ((j3.2.1,j3.2.2))):Option (Int × Int)).bind fun (j7:Int × Int)=>(iter (kPa a2) ((false,0,j7.1,j7.2))).bind fun b14=>(((bif (b14.2.1==0) then (wpa a3).bind fun v37=>some ((!v37)) else some false):Option Bool).bind fun (j35:Bool)=>(bif j35 then (R_At 3 ((-7))).bind fun v40=>some ((v40.Code,v40.Index)) else some ((b14.2.1,b14.2.2))):Option (Int × Int)).bind fun (j34:Int × Int)=>(((bif (j34.1==0) then (idx a0.Entries j3.1).bind fun v45=>some (decide (a3 < v45.Since)) else some false):Option Bool).bind fun (j43:Bool)=>(bif j43 then (R_At 19 ((-7))).bind fun v48=>some ((v48.Code,v48.Index)) else some ((j34.1,j34.2))):Option (Int × Int)).bind fun (j42:Int × Int)=>(bif (j42.1 !=0) then some (((zra.mk ([]) 0),[],(zpa.mk j42.1 j42.2))) else (iter (Zca a0) ((0,0,([]:List zba)))).bind fun b52=>((bif b14.1 then (idx a0.Entries j3.1).bind fun v65=>((bif decide (1000000 < (w64 (v65.Tries+1))) then some 1000000 else some ((w64 (v65.Tries+1)))):Option Int).bind fun (j67:Int)=>(idx b52.1 j3.1).bind fun v69=>(idx b52.1 j3.1).bind fun v71=>(idx a0.Entries j3.1).bind fun v73=>(YEa v73.Since j67 a3).bind fun v75=>((bif v75.2.1 then some 0 else some 3):Option Int).bind fun (j77:Int)=>((bif v75.2.1 then (idx a0.Entries j3.1).bind fun v81=>some (decide (v81.Due < v75.1)) else some false):Option Bool).bind fun (j79:Bool)=>(bif j79 then (idx ((List.set b52.1 (Int.toNat j3.1) ((zba.mk v71.Id v71.Mail v71.Since j67 v71.Due v71.To)))) j3.1).bind fun v84=>(idx ((List.set b52.1 (Int.toNat j3.1) ((zba.mk v71.Id v71.Mail v71.Since j67 v71.Due v71.To)))) j3.1).bind fun v86=>some ((j77,(List.set ((List.set b52.1 (Int.toNat j3.1) ((zba.mk v71.Id v71.Mail v71.Since j67 v71.Due v71.To)))) (Int.toNat j3.1) ((zba.mk v86.Id v86.Mail v86.Since v86.Tries v75.1 v86.To))))) else some ((j77,(List.set b52.1 (Int.toNat j3.1) ((zba.mk v71.Id v71.Mail v71.Since j67 v71.Due v71.To)))))) else some ((3,b52.1))):Option (Int × (List zba))).bind fun (j63:Int × (List zba))=>(iter (qRa a1 a2 j3 b52 j63) ((0,([]:List zfa),j63.2))).bind fun b89=>(iter (qSa b89) ((0,([]:List zba)))).bind fun b138=>some (((zra.mk b138 a0.Next),b89.1,(zpa.mk j42.1 j42.2))))
def v9a(v10:zba)(v12:zba)(s23:Int):Option (Step Int (Unit ⊕ Bool)):=
 (bif decide (s23 < (v10.To.length:Int)) then (idx v10.To s23).bind fun v29=>(idx v12.To s23).bind fun v31=>(bif (!(kWa [(kWa [(v29.Recipient.Address==v31.Recipient.Address),(v29.Recipient.Notify==v31.Recipient.Notify)]),(v29.Result==v31.Result),(v29.Busy==v31.Busy)])) then some (.out (.inr false)) else some (.cont (w64 (s23+1)))) else some (.out (.inl (()))))
noncomputable def w7a(a0:zra)(a1:zra)(s4:Int):Option (Step Int (Unit ⊕ Bool)):=
 (bif decide (s4 < (a0.Entries.length:Int)) then (idx a0.Entries s4).bind fun v10=>(idx a1.Entries s4).bind fun v12=>((bif (v10.Id !=v12.Id) then some true else (bif (v10.Since !=v12.Since) then some true else (bif (v10.Tries !=v12.Tries) then some true else (bif (v10.Due !=v12.Due) then some true else (bif ((v10.To.length:Int) !=(v12.To.length:Int)) then some true else (Zsa v10.Mail v12.Mail).bind fun v20=>some ((!v20))))))):Option Bool).bind fun (j14:Bool)=>(bif j14 then some (.out (.inr false)) else (iter (v9a v10 v12) 0).bind (Sum.elim (fun b24=>some (.cont (w64 (s4+1)))) (fun b25=>some (.out (.inr b25))))) else some (.out (.inl (()))))
noncomputable def yOa(a0:zra)(a1:zra):Option Bool:=
 ((bif (a0.Next !=a1.Next) then some true else some (((a0.Entries.length:Int) !=(a1.Entries.length:Int)))):Option Bool).bind fun (j1:Bool)=>(bif j1 then some false else (iter (w7a a0 a1) 0).bind (Sum.elim (fun b5=>some true) (fun b6=>some b6)))
def vSa(a0:List zfa)(a1:List zfa)(s2:Int):Option (Step Int (Unit ⊕ Bool)):=
 (bif decide (s2 < (a0.length:Int)) then (idx a0 s2).bind fun v8=>(idx a1 s2).bind fun v10=>(bif (!(kWa [(v8.Entry==v10.Entry),(v8.Number==v10.Number),(v8.Result==v10.Result)])) then some (.out (.inr false)) else some (.cont (w64 (s2+1)))) else some (.out (.inl (()))))
noncomputable def vca(a0:List zfa)(a1:List zfa):Option Bool:=
 (bif ((a0.length:Int) !=(a1.length:Int)) then some false else (iter (vSa a0 a1) 0).bind (Sum.elim (fun b3=>some true) (fun b4=>some b4)))
def yPa(a0:kia):Option Bool:=
 ((bif (a0.Envelope.From==([]:Str)) then (bif (a0.Envelope.Id==([]:Str)) then some (((w64 ((w64 ((a0.Envelope.To.length:Int)+(a0.Message.Fields.length:Int)))+(a0.Message.Body.length:Int)))==0)) else some false) else some false):Option Bool).bind fun (j1:Bool)=>some j1
def yQa(a0:zha):Option Bool:=
 (bif (a0.Kind==2) then (yPa a0.Mail).bind fun v2=>some v2 else ((bif (a0.Attempt.Entry==0) then (bif (a0.Attempt.Domain==([]:Str)) then some (((w64 ((a0.Attempt.To.length:Int)+(a0.Results.length:Int)))==0)) else some false) else some false):Option Bool).bind fun (j4:Bool)=>some j4)
def voa(a0:zha)(s16:Int):Option (Step Int (Unit ⊕ zpa)):=
 (bif decide (s16 < (a0.Attempt.To.length:Int)) then (idx a0.Attempt.To s16).bind fun v22=>((bif decide (v22 < 0) then some true else (bif decide (60<=v22) then some true else (bif decide (0 < s16) then (idx a0.Attempt.To ((w64 (s16 - 1)))).bind fun v28=>some (decide (v22<=v28)) else some false))):Option Bool).bind fun (j24:Bool)=>(bif j24 then (zsa 3 ((-4))).bind fun v31=>some (.out (.inr v31)) else some (.cont (w64 (s16+1)))) else some (.out (.inl (()))))
def w8a(a0:zha)(s37:Int):Option (Step Int (Unit ⊕ Int)):=
 (bif decide (s37 < (a0.Results.length:Int)) then (idx a0.Results s37).bind fun v43=>((bif decide (v43 < 1) then some true else some (decide (4 < v43))):Option Bool).bind fun (j45:Bool)=>(bif j45 then some (.out (.inr s37)) else some (.cont (w64 (s37+1)))) else some (.out (.inl (()))))
noncomputable def Zxa(a0:zha):Option zpa:=
 ((bif decide (a0.Attempt.Entry < 0) then some true else some (decide (1000000 < a0.Attempt.Entry))):Option Bool).bind fun (j1:Bool)=>(bif j1 then (zsa 3 ((-3))).bind fun v4=>some v4 else (q4a a0.Attempt.Domain).bind fun v6=>(bif (!v6) then (zsa 10 ((-4))).bind fun v9=>some v9 else ((bif decide ((a0.Attempt.To.length:Int) < 1) then some true else some (decide (60 < (a0.Attempt.To.length:Int)))):Option Bool).bind fun (j11:Bool)=>(bif j11 then (zsa 2 ((-4))).bind fun v14=>some v14 else (iter (voa a0) 0).bind (Sum.elim (fun b17=>(bif ((a0.Results.length:Int) !=(a0.Attempt.To.length:Int)) then (zsa 9 ((-5))).bind fun v34=>some v34 else ((iter (w8a a0) 0).bind (Sum.elim (fun b38=>some ((-1))) (fun b39=>some b39)):Option Int).bind fun (j36:Int)=>(bif decide (0<=j36) then (zsa 3 ((-5))).bind fun v49=>some v49 else (ksa).bind fun v51=>some v51))) (fun b18=>some b18)))))
noncomputable def waa(a0:zha):Option zpa:=
 ((bif (a0.Kind !=1) then some ((a0.Kind !=2)) else some false):Option Bool).bind fun (j1:Bool)=>(bif j1 then (zsa 4 ((-2))).bind fun v4=>some v4 else (q3a a0.Now).bind fun v6=>(bif (!v6) then (zsa 3 ((-7))).bind fun v9=>some v9 else (yQa a0).bind fun v11=>(bif (!v11) then (zsa 5 ((-8))).bind fun v14=>some v14 else (bif (a0.Kind==2) then (Zxa a0).bind fun v17=>some v17 else (qQa a0.Mail).bind fun v19=>(z7a v19).bind fun v21=>(bif v21 then (zsa v19.Code ((-6))).bind fun v24=>some v24 else (ksa).bind fun v26=>some v26)))))
def kfa(a1:Int)(s1:Int × zla):Option (Step (Int × zla) zla):=
 (bif decide (s1.1 < 8) then (nng ((w64 (8 * s1.1)))).bind fun v5=>(app 140737488355328 s1.2.out (([(toU8 ((uShr ((wu64 a1)) ((w64 (8 * s1.1))))))]:List UInt8))).bind fun v7=>some (.cont ((w64 (s1.1+1)),(zla.mk v7))) else some (.out s1.2))
noncomputable def zMa(a0:zla)(a1:Int):Option zla:=
 (iter (kfa a1) ((0,a0))).bind fun b2=>some b2
noncomputable def z8a(a0:zla)(a1:Str):Option zla:=
 (zMa a0 ((a1.length:Int))).bind fun v1=>(app 140737488355328 v1.out a1).bind fun v3=>some ((zla.mk v3))
noncomputable def w9a(a0:zha)(s10:Int × zla):Option (Step (Int × zla) zla):=
 (bif decide (s10.1 < (a0.Mail.Envelope.To.length:Int)) then (idx a0.Mail.Envelope.To s10.1).bind fun v14=>(z8a s10.2 v14.Address).bind fun v16=>(zMa v16 v14.Notify).bind fun v18=>some (.cont ((w64 (s10.1+1)),v18)) else some (.out s10.2))
noncomputable def yaa(a0:zha)(s24:Int × zla):Option (Step (Int × zla) zla):=
 (bif decide (s24.1 < (a0.Mail.Message.Fields.length:Int)) then (idx a0.Mail.Message.Fields s24.1).bind fun v28=>(z8a s24.2 v28.Name).bind fun v30=>(z8a v30 v28.Value).bind fun v32=>some (.cont ((w64 (s24.1+1)),v32)) else some (.out s24.2))
def ZVa(v46:Int)(s48:Int × zla):Option (Step (Int × zla) zla):=
 (bif decide (s48.1 < 8) then (nng ((w64 (8 * s48.1)))).bind fun v52=>(app 140737488355328 s48.2.out (([(toU8 ((uShr ((wu64 v46)) ((w64 (8 * s48.1))))))]:List UInt8))).bind fun v54=>some (.cont ((w64 (s48.1+1)),(zla.mk v54))) else some (.out s48.2))
noncomputable def yba(a0:zha)(s42:Int × zla):Option (Step (Int × zla) zla):=
 (bif decide (s42.1 < (a0.Attempt.To.length:Int)) then (idx a0.Attempt.To s42.1).bind fun v46=>(iter (ZVa v46) ((0,s42.2))).bind fun b49=>some (.cont ((w64 (s42.1+1)),b49)) else some (.out s42.2))
def ZWa(v62:Int)(s64:Int × zla):Option (Step (Int × zla) zla):=
 (bif decide (s64.1 < 8) then (nng ((w64 (8 * s64.1)))).bind fun v68=>(app 140737488355328 s64.2.out (([(toU8 ((uShr ((wu64 v62)) ((w64 (8 * s64.1))))))]:List UInt8))).bind fun v70=>some (.cont ((w64 (s64.1+1)),(zla.mk v70))) else some (.out s64.2))
noncomputable def yca(a0:zha)(s58:Int × zla):Option (Step (Int × zla) zla):=
 (bif decide (s58.1 < (a0.Results.length:Int)) then (idx a0.Results s58.1).bind fun v62=>(iter (ZWa v62) ((0,s58.2))).bind fun b65=>some (.cont ((w64 (s58.1+1)),b65)) else some (.out s58.2))
noncomputable def Zya(a0:zha):Option (List UInt8):=
 (zMa ((zla.mk (([]:List UInt8)))) a0.Kind).bind fun v1=>(zMa v1 a0.Now).bind fun v3=>(bif (a0.Kind==1) then (z8a v3 a0.Mail.Envelope.From).bind fun v6=>(zMa v6 ((a0.Mail.Envelope.To.length:Int))).bind fun v8=>(iter (w9a a0) ((0,v8))).bind fun b11=>(z8a b11 a0.Mail.Envelope.Id).bind fun v20=>(zMa v20 ((a0.Mail.Message.Fields.length:Int))).bind fun v22=>(iter (yaa a0) ((0,v22))).bind fun b25=>(z8a b25 a0.Mail.Message.Body).bind fun v34=>some v34.out else (zMa v3 a0.Attempt.Entry).bind fun v36=>(z8a v36 a0.Attempt.Domain).bind fun v38=>(zMa v38 ((a0.Attempt.To.length:Int))).bind fun v40=>(iter (yba a0) ((0,v40))).bind fun b43=>(zMa b43 ((a0.Results.length:Int))).bind fun v56=>(iter (yca a0) ((0,v56))).bind fun b59=>some b59.out)
def yRa(a0:List UInt8)(s1:Int × Int):Option (Step (Int × Int) Int):=
 (bif decide (s1.2 < (a0.length:Int)) then (idx a0 s1.2).bind fun v5=>some (.cont ((wu64 ((uXor s1.1 ((v5.toNat:Int))) * 1099511628211)),(w64 (s1.2+1)))) else some (.out s1.1))
noncomputable def KEa(a0:List UInt8):Option Int:=
 (iter (yRa a0) ((14695981039346656037,0))).bind fun b2=>some b2
noncomputable def wRa(a0:zha):Option (List UInt8):=
 (Zya a0).bind fun v1=>(z8a ((zla.mk (([]:List UInt8)))) v1).bind fun v3=>(KEa v1).bind fun v5=>(zMa v3 ((w64 v5))).bind fun v7=>some v7.out
noncomputable def vfa(a0:List UInt8)(a1:zha):Option ((List UInt8) × zpa):=
 (bif decide (200000 < (a0.length:Int)) then (zsa 1 ((-1))).bind fun v2=>some (([],v2)) else (waa a1).bind fun v4=>(z7a v4).bind fun v6=>(bif v6 then some (([],v4)) else (wRa a1).bind fun v9=>(kTa (([a0,v9]:List (List UInt8)))).bind fun v11=>(bif decide (200000 < (v11.length:Int)) then (zsa 1 ((-9))).bind fun v14=>some (([],v14)) else (ksa).bind fun v16=>some ((v11,v16)))))
def kIa(a0:zia)(s2:Int × Int):Option (Step (Int × Int) Int):=
 (bif decide (s2.2 < 8) then (idx a0.b s2.2).bind fun v6=>(nng ((w64 (8 * s2.2)))).bind fun v8=>some (.cont ((uOr s2.1 ((uShl ((v6.toNat:Int)) ((w64 (8 * s2.2)))))),(w64 (s2.2+1)))) else some (.out s2.1))
noncomputable def zHa(a0:zia):Option (Int × zia):=
 (bif decide ((a0.b.length:Int) < 8) then some ((0,(zia.mk ([]) true))) else (iter (kIa a0) ((0,0))).bind fun b3=>(cut a0.b 8 ((a0.b.length:Int))).bind fun v10=>some (((w64 b3),(zia.mk v10 a0.bad))))
noncomputable def z9a(a0:zia):Option (Str × zia):=
 (zHa a0).bind fun v1=>((bif decide (v1.1 < 0) then some true else some (decide ((v1.2.b.length:Int) < v1.1))):Option Bool).bind fun (j3:Bool)=>(bif j3 then some ((([]:Str),(zia.mk ([]) true))) else (cut v1.2.b 0 v1.1).bind fun v6=>(cut v1.2.b v1.1 ((v1.2.b.length:Int))).bind fun v8=>some ((v6,(zia.mk v8 v1.2.bad))))
noncomputable def vpa(v9:Int × zia)(s11:Int × zia × (List zca)):Option (Step (Int × zia × (List zca)) (zia × (List zca))):=
 ((bif decide (s11.1 < v9.1) then some ((!s11.2.1.bad)) else some false):Option Bool).bind fun (j14:Bool)=>(bif j14 then (z9a s11.2.1).bind fun v17=>(zHa v17.2).bind fun v19=>(app 5864062014805 s11.2.2 (([(zca.mk v17.1 v19.1)]:List zca))).bind fun v21=>some (.cont ((w64 (s11.1+1)),v19.2,v21)) else some (.out ((s11.2.1,s11.2.2))))
noncomputable def vqa(v25:Int × zia)(s27:Int × zia × (List zja)):Option (Step (Int × zia × (List zja)) (zia × (List zja))):=
 ((bif decide (s27.1 < v25.1) then some ((!s27.2.1.bad)) else some false):Option Bool).bind fun (j30:Bool)=>(bif j30 then (z9a s27.2.1).bind fun v33=>(z9a v33.2).bind fun v35=>(app 4398046511104 s27.2.2 (([(zja.mk v33.1 v35.1)]:List zja))).bind fun v37=>some (.cont ((w64 (s27.1+1)),v35.2,v37)) else some (.out ((s27.2.1,s27.2.2))))
def ZXa(s47:Int × zia × (List Int))(s55:Int × Int):Option (Step (Int × Int) Int):=
 (bif decide (s55.2 < 8) then (idx s47.2.1.b s55.2).bind fun v59=>(nng ((w64 (8 * s55.2)))).bind fun v61=>some (.cont ((uOr s55.1 ((uShl ((v59.toNat:Int)) ((w64 (8 * s55.2)))))),(w64 (s55.2+1)))) else some (.out s55.1))
noncomputable def vra(v45:Int × zia)(s47:Int × zia × (List Int)):Option (Step (Int × zia × (List Int)) (zia × (List Int))):=
 ((bif decide (s47.1 < v45.1) then some ((!s47.2.1.bad)) else some false):Option Bool).bind fun (j50:Bool)=>(bif j50 then ((bif decide ((s47.2.1.b.length:Int) < 8) then some ((0,(zia.mk ([]) true))) else (iter (ZXa s47) ((0,0))).bind fun b56=>(cut s47.2.1.b 8 ((s47.2.1.b.length:Int))).bind fun v63=>some (((w64 b56),(zia.mk v63 s47.2.1.bad)))):Option (Int × zia)).bind fun (j53:Int × zia)=>(app 17592186044416 s47.2.2 (([j53.1]:List Int))).bind fun v65=>some (.cont ((w64 (s47.1+1)),j53.2,v65)) else some (.out ((s47.2.1,s47.2.2))))
def Vla(s69:Int × zia × (List Int))(s77:Int × Int):Option (Step (Int × Int) Int):=
 (bif decide (s77.2 < 8) then (idx s69.2.1.b s77.2).bind fun v81=>(nng ((w64 (8 * s77.2)))).bind fun v83=>some (.cont ((uOr s77.1 ((uShl ((v81.toNat:Int)) ((w64 (8 * s77.2)))))),(w64 (s77.2+1)))) else some (.out s77.1))
noncomputable def ZYa(v67:Int × zia)(s69:Int × zia × (List Int)):Option (Step (Int × zia × (List Int)) (zia × (List Int))):=
 ((bif decide (s69.1 < v67.1) then some ((!s69.2.1.bad)) else some false):Option Bool).bind fun (j72:Bool)=>(bif j72 then ((bif decide ((s69.2.1.b.length:Int) < 8) then some ((0,(zia.mk ([]) true))) else (iter (Vla s69) ((0,0))).bind fun b78=>(cut s69.2.1.b 8 ((s69.2.1.b.length:Int))).bind fun v85=>some (((w64 b78),(zia.mk v85 s69.2.1.bad)))):Option (Int × zia)).bind fun (j75:Int × zia)=>(app 17592186044416 s69.2.2 (([j75.1]:List Int))).bind fun v87=>some (.cont ((w64 (s69.1+1)),j75.2,v87)) else some (.out ((s69.2.1,s69.2.2))))
noncomputable def Zza(a0:List UInt8):Option (zha × Bool):=
 (zHa ((zia.mk a0 false))).bind fun v1=>(zHa v1.2).bind fun v3=>((bif (v1.1==1) then (z9a v3.2).bind fun v7=>(zHa v7.2).bind fun v9=>(iter (vpa v9) ((0,v9.2,([]:List zca)))).bind fun b12=>(z9a b12.1).bind fun v23=>(zHa v23.2).bind fun v25=>(iter (vqa v25) ((0,v25.2,([]:List zja)))).bind fun b28=>(z9a b28.1).bind fun v39=>some ((v39.2,(zha.mk v1.1 v3.1 ((kia.mk ((zGa.mk v7.1 b12.2 v23.1)) ((zya.mk b28.2 v39.1)))) ((zxa.mk 0 (([]:Str)) ([]))) ([])))) else (zHa v3.2).bind fun v41=>(z9a v41.2).bind fun v43=>(zHa v43.2).bind fun v45=>(iter (vra v45) ((0,v45.2,([]:List Int)))).bind fun b48=>(zHa b48.1).bind fun v67=>(iter (ZYa v67) ((0,v67.2,([]:List Int)))).bind fun b70=>some ((b70.1,(zha.mk v1.1 v3.1 ((kia.mk ((zGa.mk (([]:Str)) ([]) (([]:Str)))) ((zya.mk ([]) ([]))))) ((zxa.mk v41.1 v43.1 b48.2)) b70.2)))):Option (zia × zha)).bind fun (j5:zia × zha)=>((bif (!j5.1.bad) then (bif ((j5.1.b.length:Int)==0) then (waa j5.2).bind fun v92=>(z7a v92).bind fun v94=>some ((!v94)) else some false) else some false):Option Bool).bind fun (j89:Bool)=>some ((j5.2,j89))
noncomputable def vsa(a0:List UInt8)(s5:Int × Int × (List zha)):Option (Step (Int × Int × (List zha)) ((Int × (List zha)) ⊕ (Int × (List zha)))):=
 (cut a0 s5.1 ((a0.length:Int))).bind fun v10=>(z9a ((zia.mk v10 false))).bind fun v12=>(zHa v12.2).bind fun v14=>(bif v14.2.bad then some (.out (.inl ((s5.2.1,s5.2.2)))) else (Zza v12.1).bind fun v17=>(wRa v17.1).bind fun v19=>((bif (!v17.2) then some true else (cut a0 s5.1 ((a0.length:Int))).bind fun v23=>(qsa v23 v19).bind fun v25=>some ((!v25))):Option Bool).bind fun (j21:Bool)=>(bif j21 then some (.out (.inl ((s5.2.1,s5.2.2)))) else (app 733007751850 s5.2.2 (([v17.1]:List zha))).bind fun v28=>(bif ((v28.length:Int)==100) then some (.out (.inr (((w64 (s5.1+(v19.length:Int))),v28)))) else some (.cont ((w64 (s5.1+(v19.length:Int))),(w64 (s5.1+(v19.length:Int))),v28)))))
noncomputable def jja(a0:List UInt8):Option ((List zha) × Int × zpa):=
 (bif decide (200000 < (a0.length:Int)) then (zsa 1 ((-1))).bind fun v2=>some (([],0,v2)) else ((iter (vsa a0) ((0,0,([]:List zha)))).bind (Sum.elim (fun b6=>some ((b6.1,b6.2))) (fun b7=>some ((b7.1,b7.2)))):Option (Int × (List zha))).bind fun (j4:Int × (List zha))=>(ksa).bind fun v31=>some ((j4.2,j4.1,v31)))
noncomputable def wba(a0:List zha)(s4:Int):Option (Step Int (Unit ⊕ (zra × (List zfa) × zpa))):=
 (bif decide (s4 < (a0.length:Int)) then (idx a0 s4).bind fun v10=>(waa v10).bind fun v12=>(z7a v12).bind fun v14=>(bif v14 then (zsa v12.Code s4).bind fun v17=>some (.out (.inr (((zra.mk ([]) 0),[],v17)))) else some (.cont (w64 (s4+1)))) else some (.out (.inl (()))))
noncomputable def vda(a0:List zha)(s19:Int × (List zfa) × (List zba) × Int):Option (Step (Int × (List zfa) × (List zba) × Int) (((List zfa) × (List zba) × Int) ⊕ (zra × (List zfa) × zpa))):=
 (bif decide (s19.1 < (a0.length:Int)) then (idx a0 s19.1).bind fun v25=>((bif (v25.Kind==1) then (KDa ((zra.mk s19.2.2.1 s19.2.2.2)) v25.Mail v25.Now).bind fun v29=>some ((v29.2.2.Code,v29.2.2.Index,s19.2.1,v29.1.Entries,v29.1.Next)) else (Zta ((zra.mk s19.2.2.1 s19.2.2.2)) v25.Attempt).bind fun v31=>(z7a v31.2).bind fun v33=>(bif (!v33) then (Zva v31.1 v25.Attempt v25.Results v25.Now).bind fun v36=>(app 5864062014805 s19.2.1 v36.2.1).bind fun v38=>some ((v36.2.2.Code,v36.2.2.Index,v38,v36.1.Entries,v36.1.Next)) else some ((v31.2.Code,v31.2.Index,s19.2.1,v31.1.Entries,v31.1.Next)))):Option (Int × Int × (List zfa) × (List zba) × Int)).bind fun (j27:Int × Int × (List zfa) × (List zba) × Int)=>(z7a ((zpa.mk j27.1 j27.2.1))).bind fun v40=>(bif v40 then (zsa j27.1 s19.1).bind fun v43=>some (.out (.inr (((zra.mk ([]) 0),[],v43)))) else some (.cont ((w64 (s19.1+1)),j27.2.2.1,j27.2.2.2.1,j27.2.2.2.2))) else some (.out (.inl ((s19.2.1,s19.2.2.1,s19.2.2.2)))))
noncomputable def wca(a0:List zha):Option (zra × (List zfa) × zpa):=
 (bif decide (100 < (a0.length:Int)) then (zsa 2 ((-1))).bind fun v2=>some (((zra.mk ([]) 0),[],v2)) else (iter (wba a0) 0).bind (Sum.elim (fun b5=>(iter (vda a0) ((0,([]:List zfa),[],0))).bind (Sum.elim (fun b20=>(ksa).bind fun v45=>some (((zra.mk b20.2.1 b20.2.2),b20.1,v45))) (fun b21=>some ((b21.1,b21.2.1,b21.2.2))))) (fun b6=>some ((b6.1,b6.2.1,b6.2.2)))))
noncomputable def KFa:Option Bool:=
 (Vha (([([97,64,121]:Str)]:List Str))).bind fun v1=>(vfa ([]) ((zha.mk 1 0 v1 ((zxa.mk 0 (([]:Str)) ([]))) ([])))).bind fun v3=>(jja v3.1).bind fun v5=>(wca (([(zha.mk 1 0 v1 ((zxa.mk 0 (([]:Str)) ([]))) ([])),(zha.mk 2 5 ((kia.mk ((zGa.mk (([]:Str)) ([]) (([]:Str)))) ((zya.mk ([]) ([]))))) ((zxa.mk 0 (([121]:Str)) (([0]:List Int)))) (([1]:List Int)))]:List zha))).bind fun v7=>(vfa ([]) ((zha.mk 0 0 ((kia.mk ((zGa.mk (([]:Str)) ([]) (([]:Str)))) ((zya.mk ([]) ([]))))) ((zxa.mk 0 (([]:Str)) ([]))) ([])))).bind fun v9=>((bif (v3.2.Code==0) then (bif (v5.2.2.Code==0) then (bif (v7.2.2.Code==0) then (R_At 4 ((-2))).bind fun v15=>(bif (kWa [(v9.2.Code==v15.Code),(v9.2.Index==v15.Index)]) then (bif decide (16 < (v3.1.length:Int)) then (bif (v5.2.1==(v3.1.length:Int)) then (bif ((v5.1.length:Int)==1) then (bif ((v7.1.Entries.length:Int)==0) then (bif (v7.1.Next==1) then (vca v7.2.1 (([(zfa.mk 0 0 1)]:List zfa))).bind fun v23=>some v23 else some false) else some false) else some false) else some false) else some false) else some false) else some false) else some false) else some false):Option Bool).bind fun (j11:Bool)=>some j11
def qra(a0:zha)(s51:Int × Int):Option (Step (Int × Int) (Unit ⊕ zpa)):=
 (bif decide (s51.2 < (a0.Attempt.To.length:Int)) then (idx a0.Attempt.To s51.2).bind fun v57=>(R_In v57 ((w64 (s51.1+1))) 59).bind fun v59=>(bif (!v59) then (R_At 3 ((-4))).bind fun v62=>some (.out (.inr v62)) else (idx a0.Attempt.To s51.2).bind fun v64=>some (.cont (v64,(w64 (s51.2+1))))) else some (.out (.inl (()))))
def wqa(a0:zha)(s69:Int):Option (Step Int (Unit ⊕ zpa)):=
 (bif decide (s69 < (a0.Results.length:Int)) then (idx a0.Results s69).bind fun v75=>(R_In v75 1 4).bind fun v77=>(bif (!v77) then (R_At 3 ((-5))).bind fun v80=>some (.out (.inr v80)) else some (.cont (w64 (s69+1)))) else some (.out (.inl (()))))
noncomputable def vKa(a0:zha):Option zpa:=
 ((bif (a0.Kind !=1) then some ((a0.Kind !=2)) else some false):Option Bool).bind fun (j1:Bool)=>(bif j1 then (R_At 4 ((-2))).bind fun v4=>some v4 else (wpa a0.Now).bind fun v6=>(bif (!v6) then (R_At 3 ((-7))).bind fun v9=>some v9 else ((bif (a0.Attempt.Entry==0) then (bif (a0.Attempt.Domain==([]:Str)) then (bif ((a0.Attempt.To.length:Int)==0) then some (((a0.Results.length:Int)==0)) else some false) else some false) else some false):Option Bool).bind fun (j11:Bool)=>((bif (a0.Mail.Envelope.From==([]:Str)) then (bif (a0.Mail.Envelope.Id==([]:Str)) then (bif ((a0.Mail.Envelope.To.length:Int)==0) then (bif ((a0.Mail.Message.Fields.length:Int)==0) then some (((a0.Mail.Message.Body.length:Int)==0)) else some false) else some false) else some false) else some false):Option Bool).bind fun (j15:Bool)=>((bif (a0.Kind==1) then (bif (!j11) then some true else (bif (a0.Kind==2) then some ((!j15)) else some false)) else (bif (a0.Kind==2) then some ((!j15)) else some false)):Option Bool).bind fun (j20:Bool)=>(bif j20 then (R_At 5 ((-8))).bind fun v26=>some v26 else (bif (a0.Kind==1) then (vka a0.Mail).bind fun v29=>(bif (v29.Code !=0) then (vka a0.Mail).bind fun v32=>(R_At v32.Code ((-6))).bind fun v34=>some v34 else some ((zpa.mk 0 0))) else (R_In a0.Attempt.Entry 0 1000000).bind fun v36=>(bif (!v36) then (R_At 3 ((-3))).bind fun v39=>some v39 else (jia a0.Attempt.Domain).bind fun v41=>(bif (!v41) then (R_At 10 ((-4))).bind fun v44=>some v44 else (R_In ((a0.Attempt.To.length:Int)) 1 60).bind fun v46=>(bif (!v46) then (R_At 2 ((-4))).bind fun v49=>some v49 else (iter (qra a0) (((-1),0))).bind (Sum.elim (fun b52=>(bif ((a0.Results.length:Int) !=(a0.Attempt.To.length:Int)) then (R_At 9 ((-5))).bind fun v67=>some v67 else (iter (wqa a0) 0).bind (Sum.elim (fun b70=>some ((zpa.mk 0 0))) (fun b71=>some b71)))) (fun b53=>some b53)))))))))
noncomputable def wza(a0:List zha)(s4:Int):Option (Step Int (Unit ⊕ (zra × (List zfa) × zpa))):=
 (bif decide (s4 < (a0.length:Int)) then (idx a0 s4).bind fun v10=>(vKa v10).bind fun v12=>(bif (v12.Code !=0) then (idx a0 s4).bind fun v15=>(vKa v15).bind fun v17=>(R_At v17.Code s4).bind fun v19=>some (.out (.inr (((zra.mk ([]) 0),[],v19)))) else some (.cont (w64 (s4+1)))) else some (.out (.inl (()))))
noncomputable def vLa(a0:List zha)(s21:Int × (List zfa) × (List zba) × Int):Option (Step (Int × (List zfa) × (List zba) × Int) (((List zfa) × (List zba) × Int) ⊕ (zra × (List zfa) × zpa))):=
 (bif decide (s21.1 < (a0.length:Int)) then ((idx a0 s21.1).bind fun v28=>(bif (v28.Kind==1) then (idx a0 s21.1).bind fun v31=>(idx a0 s21.1).bind fun v33=>(Vja ((zra.mk s21.2.2.1 s21.2.2.2)) v31.Mail v33.Now).bind fun v35=>some (([],v35.2.2.Code,v35.2.2.Index,v35.1.Entries,v35.1.Next)) else (idx a0 s21.1).bind fun v37=>(Vka ((zra.mk s21.2.2.1 s21.2.2.2)) v37.Attempt).bind fun v39=>(bif (v39.2.Code==0) then (idx a0 s21.1).bind fun v42=>(idx a0 s21.1).bind fun v44=>(idx a0 s21.1).bind fun v46=>(jBa v39.1 v42.Attempt v44.Results v46.Now).bind fun v48=>some ((v48.2.1,v48.2.2.Code,v48.2.2.Index,v48.1.Entries,v48.1.Next)) else some (([],v39.2.Code,v39.2.Index,v39.1.Entries,v39.1.Next)))):Option ((List zfa) × Int × Int × (List zba) × Int)).bind fun (j27:(List zfa) × Int × Int × (List zba) × Int)=>(bif (j27.2.1 !=0) then (R_At j27.2.1 s21.1).bind fun v51=>some (.out (.inr (((zra.mk ([]) 0),[],v51)))) else (app 5864062014805 s21.2.1 j27.1).bind fun v53=>some (.cont ((w64 (s21.1+1)),v53,j27.2.2.2.1,j27.2.2.2.2))) else some (.out (.inl ((s21.2.1,s21.2.2.1,s21.2.2.2)))))
noncomputable def jCa(a0:List zha):Option (zra × (List zfa) × zpa):=
 (bif decide (100 < (a0.length:Int)) then (R_At 2 ((-1))).bind fun v2=>some (((zra.mk ([]) 0),[],v2)) else (iter (wza a0) 0).bind (Sum.elim (fun b5=>(iter (vLa a0) ((0,([]:List zfa),[],0))).bind (Sum.elim (fun b22=>some (((zra.mk b22.2.1 b22.2.2),b22.1,(zpa.mk 0 0)))) (fun b23=>some ((b23.1,b23.2.1,b23.2.2))))) (fun b6=>some ((b6.1,b6.2.1,b6.2.2)))))
noncomputable def qaa(a0:List zha):Option Bool:=
 (wca a0).bind fun v1=>(jCa a0).bind fun v3=>((KFa).bind fun v6=>(bif v6 then (bif (kWa [(v1.2.2.Code==v3.2.2.Code),(v1.2.2.Index==v3.2.2.Index)]) then (yOa v1.1 v3.1).bind fun v10=>(bif v10 then (vca v1.2.1 v3.2.1).bind fun v13=>some v13 else some false) else some false) else some false):Option Bool).bind fun (j5:Bool)=>some j5
section
theorem vwb(a b:Nat)(h:a+b<=9223372036854775807):w64 ((a:Int)+(b:Int))=((a+b:Nat):Int):=by
 rw[k6a (by omega) (by omega)];simp
theorem w64_ns(a b:Nat)(h:b<=a)(ha:a<=9223372036854775807):w64 ((a:Int) - (b:Int))=((a - b:Nat):Int):=by
 rw[k6a (by omega) (by omega)];omega
theorem Jna(a:Nat)(h:a<=9223372036854775807):w64 (a:Int)=(a:Int):=k6a (by omega) (by omega)
theorem jNa(c:UInt8)(k:Nat)(hk:OfNat.ofNat k < 256):((c.toNat:Int)==no_index (OfNat.ofNat k:Int))=(c==OfNat.ofNat k):=by
 have e:(OfNat.ofNat k:Int)=((OfNat.ofNat k:Nat):Int):=rfl;have h2:(OfNat.ofNat k:UInt8).toNat=(OfNat.ofNat k:Nat):=by
  show (UInt8.ofNat k).toNat=k;rw[jDd];exact jCz hk
 rw[jAq,beq_iff_eq,beq_iff_eq,<-UInt8.toNat_inj,h2,e];omega
theorem YFa(c:UInt8)(k:Nat)(hk:OfNat.ofNat k < 256):((c.toNat:Int) !=no_index (OfNat.ofNat k:Int))=(c !=OfNat.ofNat k):=by
 unfold bne;rw[jNa c k hk]
section
variable {α:Type}
theorem V9a(l:List α)(i:Nat):idx l (i:Int)=l[i]? :=by unfold idx;rw[if_pos (by omega)];simp
theorem JYa{l:List α}{i:Nat}(h:i < l.length):idx l (i:Int)=some l[i]:=by rw[V9a];exact jAh h
theorem cut_nn{l:List α}{a b:Nat}(h1:a<=b)(h2:b<=l.length):cut l (a:Int) (b:Int)=some ((l.drop a).take (b - a)):=by
 unfold cut;rw[if_pos (by omega)];simp
theorem Qwa{l:List α}{a:Nat}(h1:a<=l.length):cut l (a:Int) (l.length:Int)=some (l.drop a):=by
 rw[cut_nn h1 (jBb _)];rw[List.take_of_length_le (by simp)]
theorem Vma{l:List α}{b:Nat}(h2:b<=l.length):cut l 0 (b:Int)=some (l.take b):=by
 have:=cut_nn (l:=l) (a:=0) (b:=b) (by omega) h2;simpa using this
theorem qma{lim:Nat}{l xs:List α}(h:l.length+xs.length<=lim):app lim l xs=some (l++xs):=by unfold app;rw[if_pos h]
theorem cat_ok{a b:Str}(h:a.length+b.length<=9223372036854775807):cat a b=some (a++b):=by unfold cat;rw[if_pos h]
end
section
variable {A R:Type} {body:A->Option (Step A R)}
theorem zLb(Inv:A->Prop)(m:A->Nat)(Post:A->R->Prop)
 (h:∀s,Inv s->(∃r,body s=some (.out r)/\Post s r)∨∃s',body s=some (.cont s')/\Inv s' /\m s' < m s/\∀r,Post s' r->Post s r):
 ∀s,Inv s->∃r,iter body s=some r/\Post s r:=by
 intro s;induction hn:m s using Nat.strongRecOn generalizing s with
 | _ n ih=>
  intro hi;rcases h s hi with ⟨r,h1,h2⟩ | ⟨s',h1,h2,h3,h4⟩
  .exact ⟨r,zDa h1,h2⟩
  obtain ⟨r,h5,h6⟩:=ih (m s') (by omega) s' rfl h2;exact ⟨r,(z2a h1).trans h5,h4 r h6⟩
theorem KGa{α S:Type}(l:List α)(enc:Nat->S->A)(spec:Nat->List α->S->R)
 (h0:∀s,body (enc l.length s)=some (.out (spec l.length [] s)))
 (h1:∀p x r s,l=p++x::r->(body (enc p.length s)=some (.out (spec p.length (x::r) s)))∨∃s',body (enc p.length s)=some (.cont (enc (p.length+1) s'))/\spec p.length (x::r) s=spec (p.length+1) r s'):
 ∀{s0:A} (s:S) (_:s0=enc 0 s),iter body s0=some (spec 0 l s):=by
 have key:∀r p s,l=p++r->iter body (enc p.length s)=some (spec p.length r s):=by
  intro r;induction r with
  | nil=>
   intro p s h;have:p=l:=by simp[h]
   subst this;exact zDa (h0 s)
  | cons x r ih=>
   intro p s h;rcases h1 p x r s h with hb | ⟨s',hb,hs⟩
   .exact zDa hb
   rw[z2a hb,hs];have:=ih (p++ [x]) s' (by simp[h]);simpa using this
 rintro _ s rfl;exact key l [] s rfl
theorem wSa{α S:Type}(l:List α)(enc:Nat->S->A)(spec:Nat->List α->S->R)(Inv:Nat->List α->S->Prop)
 (h0:∀s,Inv l.length [] s->body (enc l.length s)=some (.out (spec l.length [] s)))
 (h1:∀p x r s,l=p++x::r->Inv p.length (x::r) s->(body (enc p.length s)=some (.out (spec p.length (x::r) s)))∨∃s',body (enc p.length s)=some (.cont (enc (p.length+1) s'))/\spec p.length (x::r) s=spec (p.length+1) r s' /\Inv (p.length+1) r s'):
 ∀{s0:A} (s:S) (_:s0=enc 0 s) (_:Inv 0 l s),iter body s0=some (spec 0 l s):=by
 have key:∀r p s,l=p++r->Inv p.length r s->iter body (enc p.length s)=some (spec p.length r s):=by
  intro r;induction r with
  | nil=>
   intro p s h hi;have:p=l:=by simp[h]
   subst this;exact zDa (h0 s hi)
  | cons x r ih=>
   intro p s h hi;rcases h1 p x r s h hi with hb | ⟨s',hb,hs,hi'⟩
   .exact zDa hb
   rw[z2a hb,hs];have:=ih (p++ [x]) s' (by simp[h]) (by simpa using hi');simpa using this
 rintro _ s rfl hi;exact key l [] s rfl hi
end
end
section
section
variable {α R O A S:Type}
def kda(q:Nat->α->Option R):Nat->List α->Option R
 | _,[]=>none
 | i,x::r=>match q i x with | some y=>some y | none=>kda q (i+1) r
theorem zZa(l:List α)(q:Nat->α->Option R)(oN:O)(oS:R->O){body:Int->Option (Step Int O)}(hl:body (l.length:Int)=some (.out oN))
 (hs:∀(i:Nat) x,l[i]? =some x->body (i:Int)=some ((q i x).elim (.cont ((i+1:Nat):Int)) fun r=>.out (oS r))):
 iter body 0=some ((kda q 0 l).elim oN oS):=by
 have key:∀r p,l=p++r->iter body (p.length:Int)=some ((kda q p.length r).elim oN oS):=by
  intro r;induction r with
  | nil=>
   intro p h;have:p=l:=by simp[h]
   subst this;exact zDa hl
  | cons x r ih=>
   intro p h;have hx:=hs p.length x (by simp[h]);unfold kda;cases hq:q p.length x with
   | some y=>rw[hq]at hx;exact zDa hx
   | none=>
    rw[hq]at hx;rw[z2a hx];have:=ih (p++ [x]) (by simp[h]);simpa using this
 exact key l [] rfl
theorem JZa(l:List α)(enc:Int->S->A)(f:Nat->S->α->S)(out:S->O)(Inv:Nat->S->Prop){body:A->Option (Step A O)}
 (hl:∀s,Inv l.length s->body (enc l.length s)=some (.out (out s)))
 (hs:∀(i:Nat) x s,l[i]? =some x->Inv i s->body (enc i s)=some (.cont (enc ((i+1:Nat):Int) (f i s x)))/\Inv (i+1) (f i s x)) (s:S) (h0:Inv 0 s):
 ∃t,iter body (enc 0 s)=some (out t)/\Inv l.length t/\t=(l.zipIdx.foldl (fun s p=>f p.2 s p.1) s):=by
 have key:∀r p s,l=p++r->Inv p.length s->∃t,iter body (enc (p.length:Int) s)=some (out t)/\Inv l.length t/\t=((r.zipIdx p.length).foldl (fun s p=>f p.2 s p.1) s):=by
  intro r;induction r with
  | nil=>
   intro p s h hi;have:p=l:=by simp[h]
   subst this;exact ⟨s,zDa (hl s hi),hi,rfl⟩
  | cons x r ih=>
   intro p s h hi;obtain ⟨h1,h2⟩:=hs p.length x s (by simp[h]) hi;rw[z2a h1];obtain ⟨t,h3,h4,h5⟩:=ih (p++ [x]) (f p.length s x) (by simp[h]) (by simpa using h2);refine ⟨t,by simpa using h3,h4,?_⟩;rw[h5];simp
 exact key l [] s rfl h0
theorem kUb(f:S->α->S)(l:List α):∀(n:Nat) (s:S),(l.zipIdx n).foldl (fun s p=>f s p.1) s=l.foldl f s:=by
 induction l with
 | nil=>intro n s;rfl
 | cons x r ih=>intro n s;simp[ih]
theorem KHa(l:List α)(enc:Int->S->A)(f:S->α->S)(out:S->O)(Inv:Nat->S->Prop){body:A->Option (Step A O)}
 (hl:∀s,Inv l.length s->body (enc l.length s)=some (.out (out s)))
 (hs:∀(i:Nat) x s,l[i]? =some x->Inv i s->body (enc i s)=some (.cont (enc ((i+1:Nat):Int) (f s x)))/\Inv (i+1) (f s x)) (s:S) (h0:Inv 0 s):
 iter body (enc 0 s)=some (out (l.foldl f s))/\Inv l.length (l.foldl f s):=by
 obtain ⟨t,h1,h2,h3⟩:=JZa l enc (fun _=>f) out Inv hl hs s h0;have:t=l.foldl f s:=by rw[h3];exact kUb f l 0 s
 subst this;exact ⟨h1,h2⟩
theorem yoa(c:α->Bool)(r:R)(l:List α)(n:Nat):kda (fun _ x=>if c x then some r else none) n l=if l.any c then some r else none:=by
 induction l generalizing n with
 | nil=>rfl
 | cons x l ih=>unfold kda;cases h:c x <;> simp[h,ih]
theorem vta{q:Nat->α->Option R}{l:List α}{n:Nat}:kda q n l=none↔∀(i:Nat) x,l[i]? =some x->q (n+i) x=none:=by
 induction l generalizing n with
 | nil=>simp[kda]
 | cons x l ih=>
  unfold kda;cases h:q n x with
  | some y=>
   simp only[reduceCtorEq,false_iff];intro hh;have:=hh 0 x rfl;rw[jCl,h]at this;cases this
  | none=>
   rw[ih];constructor
   .intro hh i y hy;cases i with
    | zero=>simp at hy;subst hy;exact h
    | succ i=>rw[show n+(i+1)=n+1+i by omega];exact hh i y (by simpa using hy)
   intro hh i y hy;rw[show n+1+i=n+(i+1) by omega];exact hh (i+1) y (by simpa using hy)
theorem ZZa{q:Nat->α->Option R}{l:List α}{n:Nat}{r:R}(h:kda q n l=some r):∃(i:Nat) (x:α),l[i]? =some x/\q (n+i) x=some r:=by
 induction l generalizing n with
 | nil=>cases h
 | cons x l ih=>
  unfold kda at h;cases hq:q n x with
  | some y=>rw[hq]at h;cases h;exact ⟨0,x,rfl,hq⟩
  | none=>
   rw[hq]at h;obtain ⟨i,y,h1,h2⟩:=ih h;exact ⟨i+1,y,by simpa using h1,by rw[show n+(i+1)=n+1+i by omega];exact h2⟩
theorem zEa{l:List α}{i:Nat}{x:α}(h:l[i]? =some x):i < l.length:=(jAc.1 h).1
theorem z1a{l:List α}{i:Nat}{x:α}(h:l[i]? =some x):decide ((i:Int) < (l.length:Int))=true:=by have:=zEa h;simp;omega
theorem zCa(l:List α):decide ((l.length:Int) < (l.length:Int))=false:=by simp
theorem zva{l:List α}{i:Nat}{x:α}(h:l[i]? =some x):idx l (i:Int)=some x:=by rw[V9a];exact h
end
end
section
theorem yFb{α:Type}(c:α->Bool)(l:List α):∀n:Nat,decide ((0:Int)<=(kda (fun i x=>if c x then some ((i:Nat):Int) else none) n l).getD (-1))=l.any c:=by
 induction l with
 | nil=>intro n;rfl
 | cons x l ih=>
  intro n;unfold kda;cases hc:c x with
  | true=>simp[hc]
  | false=>simp only[jAf,if_false,jDt,hc,jCy];exact ih (n+1)
theorem Vna(o:Option Int):Sum.elim (fun _=>some (-1)) (fun b=>some b) (o.elim (Sum.inl ()) Sum.inr:Unit ⊕ Int)=some (o.getD (-1)):=by cases o <;> rfl
theorem sc(i:Nat)(h:i < 9223372036854775807):w64 ((i:Int)+1)=((i+1:Nat):Int):=by rw[show ((i:Int)+1)=((i+1:Nat):Int) by omega,Jna _ (by omega)]
theorem bkL_pos{T:Type}(bk:T->Nat)(l:List T):1<=bkL bk l:=by
 induction l with
 | nil=>simp[bkL]
 | cons y l ih=>unfold bkL;omega
theorem qMb{T:Type}{bk:T->Nat}{l:List T}{x:T}(h:x∈l):bk x+1<=bkL bk l:=by
 induction l with
 | nil=>cases h
 | cons y l ih=>
  unfold bkL;have hp:=bkL_pos bk l;rcases jCf.1 h with rfl | h
  .omega
  have:=ih h;omega
theorem YGa{T:Type}{bk:T->Nat}(hb:∀x,1<=bk x)(l:List T):l.length+1<=bkL bk l:=by
 induction l with
 | nil=>simp[bkL]
 | cons y l ih=>unfold bkL;have:=hb y;simp;omega
section
variable {α:Type}
end
theorem wlb{V:Type}(m:List (Str × V))(k:Str)(v:V)(x:Str):mget (mput m k v) x=if k==x then some v else mget m x:=by
 induction m with
 | nil=>rfl
 | cons p m ih=>
  obtain ⟨k',v'⟩:=p;unfold mput;by_cases h:k' =k
  .subst h;simp only[beq_self_eq_true,if_true,mget];cases k' ==x <;> simp
  have h1:(k' ==k)=false:=by simpa using h
  rw[h1];simp only[jAf,if_false,mget];rw[ih];by_cases h2:k' =x
  .subst h2;have:(k==k')=false:=by simpa using fun h' =>h h'.symm
   simp[this]
  have:(k' ==x)=false:=by simpa using h2
  rw[this];simp
section
variable {α A S O:Type}
end
end
def le:Nat->Nat->List UInt8
 | 0,_=>[]
 | k+1,u=>UInt8.ofNat (u % 256)::le k (u / 256)
def valB:List UInt8->Nat
 | []=>0
 | c::l=>c.toNat+256 * valB l
theorem le_succ(k u:Nat):le (k+1) u=UInt8.ofNat (u % 256)::le k (u / 256):=rfl
theorem le_len:∀(k u:Nat),(le k u).length=k
 | 0,_=>rfl
 | k+1,u=>by simp[le,le_len k]
theorem yGb:∀(k u:Nat),valB (le k u)=u % 256 ^ k
 | 0,u=>by simp[le,valB,Nat.mod_one]
 | k+1,u=>by
  unfold le valB;rw[yGb k,jDd,show 256 ^ (k+1)=256 * 256 ^ k by rw[Nat.pow_succ,jDn],Nat.mod_mul];omega
theorem qNb:∀l:List UInt8,valB l < 256 ^ l.length
 | []=>by simp[valB]
 | c::l=>by
  have:=qNb l;have:=UInt8.toNat_lt c;unfold valB;rw[jCg,Nat.pow_succ];omega
theorem yHb:∀l:List UInt8,le l.length (valB l)=l
 | []=>rfl
 | c::l=>by
  have hc:=UInt8.toNat_lt c;unfold valB;rw[jCg];unfold le;rw[show (c.toNat+256 * valB l) % 256=c.toNat by omega,show (c.toNat+256 * valB l) / 256=valB l by omega,yHb l]
  congr 1
  exact UInt8.ofNat_toNat
def num8(n:Int):List UInt8:=le 8 (wu64 n).toNat
def yIb(l:List UInt8):Int:=w64 (valB l:Int)
theorem kra(n:Int):(num8 n).length=8:=le_len _ _
theorem yJb(n:Int):w64 n=if 9223372036854775808<=n % 18446744073709551616 then n % 18446744073709551616 - 18446744073709551616 else n % 18446744073709551616:=by
 unfold w64;simp[IntKind.wrap,IntKind.bits,IntKind.signed]
theorem w64_u(n:Int)(h:ok64 n):w64 (wu64 n)=n:=by
 unfold ok64 at h;unfold wu64;by_cases hn:0<=n
 .rw[show n % 18446744073709551616=n by omega];exact k6a (by omega) (by omega)
 rw[show n % 18446744073709551616=n+18446744073709551616 by omega];show w64 (n+18446744073709551616)=n;rw[yJb];split <;> omega
theorem Waa(n:Int)(h:ok64 n):yIb (num8 n)=n:=by
 unfold yIb num8;rw[yGb];have h0:0<=wu64 n/\wu64 n < 18446744073709551616:=by unfold wu64;omega
 rw[jCz (show (wu64 n).toNat < 256 ^ 8 by show _ < 18446744073709551616;omega),Int.toNat_of_nonneg h0.1];exact w64_u n h
theorem wu64_w(u:Nat)(h:u < 18446744073709551616):(wu64 (w64 (u:Int))).toNat=u:=by
 unfold wu64;rw[yJb];split <;> omega
theorem wmb(l:List UInt8)(h:l.length=8):num8 (yIb l)=l:=by
 have h1:=qNb l;rw[h]at h1;unfold num8 yIb;rw[wu64_w _ h1];have:=yHb l;rw[h]at this;exact this
theorem vxb(u:Int):ok64 (w64 u):=by
 unfold ok64;rw[yJb];split <;> omega
theorem byte_shr(n:Int)(i:Nat)(hi:i < 8):toU8 (uShr (wu64 n) (w64 (8 * (i:Int))))=UInt8.ofNat ((wu64 n).toNat / 256 ^ i % 256):=by
 have h0:0<=wu64 n:=by unfold wu64;omega
 obtain ⟨u,hu⟩:∃u:Nat,wu64 n=(u:Int):=⟨(wu64 n).toNat,by omega⟩;rw[hu];unfold toU8 uShr;rw[k6a (by omega) (by omega),show (8 * (i:Int)).toNat=8 * i by omega,Nat.min_eq_left (by omega)];have h2:((2:Int) ^ (8 * i))=((256 ^ i:Nat):Int):=by
  rw[Int.natCast_pow];rw[Int.pow_mul,show ((2:Int) ^ 8)=((256:Nat):Int) by decide]
 rw[h2,<-Int.natCast_ediv];rfl
theorem kVb(n:Int){body:Int × zla->Option (Step (Int × zla) zla)}(hb:body=kfa n):∀(k i:Nat) (o:List UInt8),i+k=8->o.length+k<=140737488355328->
 iter body ((i:Int),⟨o⟩)=some ⟨o++le k ((wu64 n).toNat / 256 ^ i)⟩:=by
 intro k;induction k with
 | zero=>
  intro i o hi hl;have:i=8:=by omega
  subst this;subst hb;refine zDa ?_;unfold kfa le;simp
 | succ k ih=>
  intro i o hi hl;have hc:body ((i:Int),⟨o⟩)=some (.cont (((i+1:Nat):Int),⟨o++ [UInt8.ofNat ((wu64 n).toNat / 256 ^ i % 256)]⟩)):=by
   subst hb;unfold kfa;dsimp only;rw[decide_eq_true (show (i:Int) < 8 by omega),byte_shr n i (by omega)];have:nng (w64 (8 * (i:Int)))=some true:=by
    unfold nng;rw[k6a (by omega) (by omega),if_pos (by omega)]
   rw[this];simp only[cond_true,jAb,sc i (by omega)];rw[qma (by simp;omega)];rfl
  rw[z2a hc,ih (i+1) _ (by omega) (by simp;omega)];rw[le_succ,Nat.div_div_eq_div_mul,Nat.pow_succ,jAv];rfl
theorem z0a(w:zla)(n:Int)(h:w.out.length<=70368744177664):zMa w n=some ⟨w.out++num8 n⟩:=by
 unfold zMa;have:=kVb n rfl 8 0 w.out rfl (by omega);rw[show iter (kfa n) (0,w)=_ from this];simp[num8]
def encT(s:Str):List UInt8:=num8 (s.length:Int)++s
theorem q0a(s:Str):(encT s).length=8+s.length:=by unfold encT;rw[jAl,kra]
theorem kpa(w:zla)(s:Str)(h:w.out.length<=35184372088832)(hs:s.length<=35184372088832):z8a w s=some ⟨w.out++encT s⟩:=by
 unfold z8a;rw[z0a w _ (by omega)];simp only[jAb];rw[qma (by rw[jAl,kra];omega)];simp[encT]
def wnb(l:List Int):List UInt8:=num8 (l.length:Int)++l.flatMap num8
theorem Voa:∀l:List Int,(l.flatMap num8).length=8 * l.length
 | []=>rfl
 | n::l=>by rw[jDv,jAl,kra,Voa l,jCg];omega
def sumB(l:List UInt8):Int:=l.foldl (fun h c=>wu64 (uXor h (c.toNat:Int) * 1099511628211)) 14695981039346656037
theorem kWb(l:List UInt8)(h:l.length<=140737488355328):KEa l=some (sumB l):=by
 unfold KEa;rw[(KHa l (fun i s=>(s,i)) (fun h c=>wu64 (uXor h (c.toNat:Int) * 1099511628211)) id (fun _ _=>True) (body:=yRa l) (fun s _=>by unfold yRa;dsimp only;rw[zCa];rfl) (fun i x s hx _=>⟨by
  have hi:=zEa hx;unfold yRa;dsimp only;rw[z1a hx,zva hx];simp only[cond_true,jAb,sc i (by omega)],trivial⟩) 14695981039346656037 trivial).1]
 rfl
end Go.Proofs.YtdblnmhmmfahkaaGreat
