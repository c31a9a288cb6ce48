/- Part 3 of the proof of the law SpoolSurvivesCrashes: what it needs. -/
import Derived.Test.YtdblnmhmmfahkaaGreatKSpoolSurvivesCrashes2
import Derived.Test.YtdblnmhmmfahkaaGreatProg
import Derived.Lib.IndexMore
import Derived.Lib.IndexAny
import Derived.Lib.Atoi
import Derived.Lib.Join
import Derived.Lib.Repeat
import Derived.Lib.Split
import Derived.Lib.FieldsP
import Derived.Lib.Strings
import Derived.Shelf.Strings.SlTrimAscii
import Derived.Laws.RangeAny
set_option linter.unusedVariables false
set_option linter.unusedSimpArgs false
set_option maxRecDepth 100000
set_option maxHeartbeats 40000000
namespace Go.Proofs.YtdblnmhmmfahkaaGreat
open Go.RowKit Go.Proofs.Tryz
section
open Go.RowKit Go.Lib Go.Proofs.Tryz
variable {E:Env} {fr:Fr} {σ:Sto} {K:Post} {T:Tab} {l:List Oper} {cs:List (Option AV)} {all:List Node} {H:List Bool}
def tget:List (Nat × AV)->Nat->Option AV
 | [],_=>none
 | (k,c)::r,i=>bif Nat.beq k i then some c else tget r i
def zrun(T:Tab)(N:Nat)(tl:List (Nat × AV)):List Oper->Nat->Fr->Sto->Option (List (Option AV) × List Sto × Sto)
 | [],_,_,σ=>some ([],[],σ)
 | o::r,i,fr,σ=>match o.dst with
  | none=>(match opDo T N o fr σ with
   | some (_,σ')=>(match zrun T N tl r (i+1) fr σ' with
    | some (cs,ss,sj)=>some (none::cs,σ' ::ss,sj)
    | none=>none)
   | none=>none)
  | some d=>(match (match tget tl i with | some c=>some c | none=>qval T fr.ev σ o.op) with
   | some c=>(match zrun T N tl r (i+1) ((d,c)::fr) σ with
    | some (cs,ss,sj)=>some (some c::cs,ss,sj)
    | none=>none)
   | none=>none)
def hvL(l:List Oper)(cs:List (Option AV)):List Nat:=(List.range l.length).filter (isHv cs)
def hvH(l:List Oper)(cs:List (Option AV))(k:Nat):List Bool:=(List.range l.length).map fun i=>((hvL l cs).take k).contains i
def stoK(σ:Sto)(ss:List Sto)(k:Nat):Sto:=(σ::ss).getD k σ
def nodK(l:List Oper)(cs:List (Option AV))(fr:Fr)(σ:Sto)(ss:List Sto)(k:Nat):Node:=(hvH l cs k,fr,stoK σ ss k)
def nods(l:List Oper)(cs:List (Option AV))(fr:Fr)(σ:Sto)(ss:List Sto):List Node:=(List.range ((hvL l cs).length+1)).map (nodK l cs fr σ ss)
def purK(l:List Oper)(cs:List (Option AV))(tl:List (Nat × AV))(k:Nat):List Nat:=(mayL l cs (hvH l cs k)).filter fun i=> !(isHv cs i) && (tget tl i).isNone
def stoD(T:Tab)(N:Nat)(l:List Oper)(cs:List (Option AV))(fr:Fr)(σ:Sto)(ss:List Sto)(k:Nat):Option Sto:=match l[(hvL l cs).getD k 0]? with
 | some o=>(match o.dst with
  | none=>(opDo T N o (purF l cs (allT l)++fr) (stoK σ ss k)).map Prod.snd
  | some _=>none)
 | none=>none
def zchk(N:Nat)(tl:List (Nat × AV))(l:List Oper)(cs:List (Option AV)):Bool:=
 kAb N l cs &&
 ((List.range ((hvL l cs).length+1)).all fun k=>(mayL l cs (hvH l cs k)).all fun i=> !(isHv cs i) || (Nat.beq i ((hvL l cs).getD k 0) && Nat.ble (k+1) (hvL l cs).length)) &&
 ((List.range (hvL l cs).length).all fun k=>((hvH l cs k).set ((hvL l cs).getD k 0) true==hvH l cs (k+1)) && !((List.range l.length).all fun i=> !(isHv cs i) || (hvH l cs k).getD i false)) &&
 (hvH l cs 0==List.replicate l.length false) &&
 ((List.range ((hvL l cs).length+1)).all fun k=>(purK l cs tl k).all fun i=>(VMa cs i).isSome)
inductive Told (E:Env) (l:List Oper) (cs:List (Option AV)) (fr:Fr) (L:List Sto):List (Nat × AV)->Prop
 | nil:Told E l cs fr L []
 | cons {i:Nat} {c:AV} {o:Oper} {r:List (Nat × AV)} (ho:l[i]? =some o) (hc:cs[i]? =some (some c)) (h:∀s,s∈L->OpG E o (purF l cs (allT l)++fr) s c) (hr:Told E l cs fr L r):Told E l cs fr L ((i,c)::r)
theorem t0{o:Oper}{FR:Fr}{c:AV}(h:OpG E o FR σ c):∀s,s∈ [σ]->OpG E o FR s c:=fun s hs=>by
 rw[jCc.1 hs];exact h
theorem Told.get{L:List Sto}{tl:List (Nat × AV)}(h:Told E l cs fr L tl){i:Nat}(hi:(tget tl i).isSome=true):∃o c,l[i]? =some o/\cs[i]? =some (some c)/\∀s,s∈L->OpG E o (purF l cs (allT l)++fr) s c:=by
 induction h with
 | nil=>cases hi
 | @cons k c o r ho hc h _ ih=>
  unfold tget at hi;cases hb:Nat.beq k i with
  | true=>
   have:=jAn hb;subst this;exact ⟨o,c,ho,hc,h⟩
  | false=>rw[hb]at hi;exact ih hi
theorem Zfa.of:∀{r:List Node},(∀nd∈r,zVb E l cs K all nd)->Zfa E l cs K all r
 | [],_=>.nil
 | nd::r,h=>.cons (h nd (by simp)) (Zfa.of fun x hx=>h x (by simp[hx]))
theorem opDo_sto{N:Nat}{o:Oper}{FR:Fr}{p:Fr × Sto}(hT:k3a E.P T)(hN:N=E.N)(hd:o.dst=none)(h:opDo T N o FR σ=some p):HvS E o FR σ p.2:=by
 subst hN;obtain ⟨f2,σ'⟩:=p;refine ⟨fun fr he _=>?_⟩;refine YLa hT ?_;obtain ⟨dst,op,ty,pos,af,gu⟩:=o;dsimp only at hd;subst hd;unfold opDo at h ⊢;dsimp only at h ⊢;cases op
 case store t x y=>
  have e1:=he x (by simp[Op.operands,Call.operands]);have e2:=he y (by simp[Op.operands,Call.operands]);dsimp only at h ⊢;rw[e1,e2];split at h
  .rename_i row hr;split at h
   .rename_i b off hx;split at h
    .rename_i cs' ho;split at h
     .rename_i vs hy;cases hb:(Nat.beq vs.length row.size && Nat.ble (off+vs.length) cs'.length) with
      | false=>rw[hb]at h;cases h
      | true=>
       rw[hb]at h;simp only[cond_true]at h ⊢;split at h
       .rename_i c2 hc2;split at h
        .rename_i s2 hs2;cases h;simp only[hr,hx,ho,hy,hb,hc2,hs2,cond_true]
        cases h
       cases h
     cases h
    cases h
   cases h
  cases h
 all_goals cases h
theorem mc(hT:k3a E.P T){id:Nat}(tl:List (Nat × AV))(frJ:Fr){ss:List Sto}{σJ:Sto}(hmix:E.P.follows .mixedOrders=true)(hz:zrun T E.N tl l 0 fr σ=some (cs,ss,σJ))
 (hk:(zchk E.N tl l cs,(List.range ((hvL l cs).length+1)).map (fun k=>(purK l cs tl k).map (qlb T l cs fr (stoK σ ss k))),(List.range (hvL l cs).length).map (stoD T E.N l cs fr σ ss),stoK σ ss (hvL l cs).length)=(true,(List.range ((hvL l cs).length+1)).map (fun k=>(purK l cs tl k).map (VMa cs)),(List.range (hvL l cs).length).map (fun k=>some (stoK σ ss (k+1))),σJ))
 (ht:Told E l cs fr (σ::ss) tl) (hf:FrLe (purF l cs (allT l)++fr) frJ) (h:K .normal frJ σJ):AWP E (.region id l.toArray true) fr σ K:=by
 have k1:=congrArg (fun x=>x.1) hk;have k2:=congrArg (fun x=>x.2.1) hk;have k3:=congrArg (fun x=>x.2.2.1) hk;have k4:=congrArg (fun x=>x.2.2.2) hk;dsimp only at k1 k2 k3 k4;rw[<-k4]at h;have hin:∀k,stoK σ ss k∈σ::ss:=fun k=>by
  unfold stoK;rw[jAm];cases hg:(σ::ss)[k]? with
  | none=>simp
  | some s=>exact jAd hg
 simp only[zchk,jAr,jAw]at k1;obtain ⟨⟨⟨⟨q1,q2⟩,q3⟩,q4⟩,q5⟩:=k1;have hget:∀k,k < (hvL l cs).length+1->(nods l cs fr σ ss)[k]? =some (nodK l cs fr σ ss k):=fun k hk=>by
  unfold nods;rw[jAq,List.getElem?_range hk];rfl
 refine Qpa cs (nods l cs fr σ ss) hmix q1 (hget 0 (by omega)) (by simpa using q4) qLa kFa (Zfa.of fun nd hnd=>?_);obtain ⟨k,hk',rfl⟩:=jCb.1 hnd;have hkr:k < (hvL l cs).length+1:=by simpa using hk'
 have steps:wca E l cs (nods l cs fr σ ss) (hvH l cs k) fr (stoK σ ss k) (mayL l cs (hvH l cs k)):=wca.of fun i hi=>by
  have hi2:=q2 k (by simpa using hkr) i hi;cases hh:isHv cs i with
  | true=>
   rw[hh]at hi2;simp only[jBh,jDr,jAr]at hi2;have hik:=jAn hi2.1;have hkn:=jAe hi2.2;have h3:=List.map_inj_left.1 k3 k (jDk.2 (by omega));have hq3:=q3 k (jDk.2 (by omega));simp only[jAr,beq_iff_eq]at hq3;unfold stoD at h3;rw[<-hik]at h3 hq3;split at h3
   .rename_i o ho;split at h3
    .rename_i hd;obtain ⟨p,hp,hp2⟩:=jAj.1 h3;have hc:cs[i]? =some none:=by
      unfold isHv at hh;split at hh
      .rename_i e;exact e
      cases hh
     have hs:=opDo_sto hT rfl hd hp;rw[hp2]at hs;exact .sto (k+1) ho hc hs (by rw[hget (k+1) (by omega)];unfold nodK;rw[hq3.1]) qLa kFa
    cases h3
   cases h3
  | false=>
   cases htl:tget tl i with
   | some c0=>
    obtain ⟨o,c,e1,e2,e3⟩:=ht.get (i:=i) (by rw[htl];rfl);exact .pure e1 e2 (e3 _ (hin k))
   | none=>
    have hm:i∈purK l cs tl k:=by
     unfold purK;rw[jCx];exact ⟨hi,by rw[hh,htl];rfl⟩
    have e1:=List.map_inj_left.1 k2 k (by simpa using hkr);have hq:qlb T l cs fr (stoK σ ss k) i=VMa cs i:=List.map_inj_left.1 e1 i hm;have hs:=q5 k (by simpa using hkr) i hm;obtain ⟨c,hcc⟩:=Option.isSome_iff_exists.1 hs;rw[hcc]at hq;obtain ⟨o,ho,hv⟩:=Option.bind_eq_some_iff.1 hq;obtain ⟨x,hx,hxc⟩:=Option.bind_eq_some_iff.1 hcc;have hxc:x=some c:=hxc;subst hxc;exact .pure ho hx (zpa (VEa hT hv))
 by_cases hkn:k < (hvL l cs).length
 .have hq3:=q3 k (by simpa using hkn);simp only[jAr,jBy]at hq3;exact .step _ rfl hq3.2 steps
 have:k=(hvL l cs).length:=by omega
 subst this;exact .full _ rfl steps hf kFa h
end
section
open Go.RowKit Go.Lib Go.Proofs.Tryz
def Fr.mp(f:AV->AV):Fr->Fr
 | []=>[]
 | (k,c)::l=>(k,f c)::Fr.mp f l
def AO.mp(f:AV->AV):AO->AO
 | .cells cs=>.cells (cs.map f)
 | .hold c v=>.hold (f c) v
 | o=>o
def Sto.mp(f:AV->AV):Sto->Sto
 | []=>[]
 | (k,a)::l=>(k,a.mp f)::Sto.mp f l
theorem Fr.get_mp{f:AV->AV}(h0:f .any=.any)(fr:Fr)(d:Nat):(fr.mp f).get d=f (fr.get d):=by
 induction fr with
 | nil=>exact h0.symm
 | cons x l ih=>
  obtain ⟨k,c⟩:=x;simp only[Fr.mp,Fr.get_cons,ih];split <;> rfl
theorem Sto.get_mp(f:AV->AV)(σ:Sto)(o:Nat):(σ.mp f).get o=(σ.get o).map (AO.mp f):=by
 induction σ with
 | nil=>rfl
 | cons x l ih=>
  obtain ⟨k,c⟩:=x;simp only[Sto.mp,Sto.get_cons,ih];split <;> rfl
theorem AO.own_mp(f:AV->AV)(ob:AO)(l:Loc):(ob.mp f).own l=ob.own l:=by cases ob <;> rfl
def AV.on(f:AV->AV):AV->AV
 | .agg l=>.agg (l.map f)
 | c=>f c
theorem vIb{g g' :G}{f:AV->AV}(hf:∀c v,Rel g c v->Rel g' (f c) v){c:AV}{v:Value}(h:Rel g c v):Rel g' (AV.on f c) v:=by
 cases c
 case agg cs=>
  cases h with
  | agg hl hc h=>
   refine .agg (by simp[hl]) hc fun i c hi=>?_
   simp only[jAq,jAj]at hi;obtain ⟨c',h1,rfl⟩:=hi;exact hf _ _ (h i c' h1)
 all_goals exact hf _ _ h
variable {E:Env} {fr:Fr} {σ:Sto} {K:Post}
theorem St.turn{g g' :G}{a:Act}(h:St E g a fr σ){r:Nat}{ob0 ob:AO}(hr:σ.get r=some ob0)(R:List Nat)(hR:r ∉ R)(f:AV->AV)(hf0:f .any=.any)(hf:∀c v,Rel g c v->Rel g' (f c) v)
 (hx:Ext g.w g.u g'.w g'.u) (hl:∀k,k≠r->g'.loc k=g.loc k) (hos:g'.w.os=g.w.os) (htape:g'.w.tape=g.w.tape) (hout:g'.w.output=g.w.output)
 (hb:∀b,b < g.w.heap.size->(∀o ob1,(o=r∨o∈R)->σ.get o=some ob1->¬ob1.own (g.loc o) b)->g'.w.heap[b]? =g.w.heap[b]? /\g'.u b=g.u b) (hwf:Wf g') (hob:RelO g' r ob)
 (hnew:∀b,ob.own (g'.loc r) b->(∃o ob1,(o=r∨o∈R)/\σ.get o=some ob1/\ob1.own (g.loc o) b)∨g.w.heap.size<=b):St E g' a (fr.mp f) (((σ.dels R).mp f).upd r ob):=by
 have hgr:((σ.dels R).mp f).get r=some (ob0.mp f):=by rw[Sto.get_mp,Sto.get_dels,if_neg hR,hr];rfl
 have hget:∀o ob',(((σ.dels R).mp f).upd r ob).get o=some ob' ->(o=r/\ob' =ob)∨(o≠r/\o ∉ R/\∃ob1,σ.get o=some ob1/\ob' =ob1.mp f):=by
  intro o ob' ho;rw[Sto.get_upd hgr]at ho;split at ho
  .rename_i hor;cases ho;exact .inl ⟨hor,rfl⟩
  rename_i hor;rw[Sto.get_mp,Sto.get_dels]at ho;split at ho
  .cases ho
  rename_i hoR;cases ho1:σ.get o with
  | none=>rw[ho1]at ho;cases ho
  | some ob1=>rw[ho1]at ho;cases ho;exact .inr ⟨hor,hoR,ob1,rfl,rfl⟩
 have hdis:∀o ob1 b,o≠r->o ∉ R->σ.get o=some ob1->ob1.own (g.loc o) b->∀o' ob2,(o' =r∨o' ∈R)->σ.get o' =some ob2->¬ob2.own (g.loc o') b:=by
  intro o ob1 b hne hnR ho hbo o' ob2 ho' h2 hc;have:=h.so.apart o o' ob1 ob2 b ho h2 hbo hc;subst this;rcases ho' with rfl | ho'
  .exact hne rfl
  exact hnR ho'
 refine ⟨fun d=>by rw[Fr.get_mp hf0];exact hf _ _ (h.fr d),h.n,h.df.mono hx,⟨?_,?_,?_,?_,hwf⟩⟩
 .intro o ob' ho;rcases hget o ob' ho with ⟨rfl,rfl⟩ | ⟨hne,hnR,ob1,ho1,rfl⟩
  .exact hob
  have hro:=h.so.obj o ob1 ho1;have hbb:∀b,ob1.own (g.loc o) b->g'.w.heap[b]? =g.w.heap[b]? /\g'.u b=g.u b:=fun b hb' =>hb b (hro.block_lt hb') (hdis o ob1 b hne hnR ho1 hb')
  cases ob1
  case cells cs=>
   cases hro with
   | @cells _ b t vs h1 h2 h3 h4 h5 h6=>
    obtain ⟨b1,b2⟩:=hbb b (by rw[h1];rfl);refine .cells ((hl o hne).trans h1) (b1.trans h2) (by simpa using h3) (b2.trans h4) h5 fun i c hi=>?_
    simp only[jAq,jAj]at hi;obtain ⟨c',hc',rfl⟩:=hi;exact hf _ _ (h6 i c' hc')
  case hold c v=>cases hro with
   | hold h1=>exact .hold (hf _ _ h1)
  all_goals exact hro.mono hx (hl o hne) (fun _ hk=>by cases hk) hbb
 .intro o o' ob1 ob2 b h1 h2 h3 h4;rcases hget o ob1 h1 with ⟨rfl,rfl⟩ | ⟨hne,hnR,ob1,ho1,rfl⟩ <;> rcases hget o' ob2 h2 with ⟨rfl,rfl⟩ | ⟨hne',hnR',ob2,ho2,rfl⟩
  .rfl
  .rw[AO.own_mp,hl o' hne']at h4;rcases hnew b h3 with ⟨q,obq,hq,hq1,hq2⟩ | h5
   .exact absurd hq2 (hdis o' ob2 b hne' hnR' ho2 h4 q obq hq hq1)
   have:=(h.so.obj o' _ ho2).block_lt h4;omega
  .rw[AO.own_mp,hl o hne]at h3;rcases hnew b h4 with ⟨q,obq,hq,hq1,hq2⟩ | h5
   .exact absurd hq2 (hdis o ob1 b hne hnR ho1 h3 q obq hq hq1)
   have:=(h.so.obj o _ ho1).block_lt h3;omega
  rw[AO.own_mp,hl o hne]at h3;rw[AO.own_mp,hl o' hne']at h4;exact h.so.apart o o' _ _ b ho1 ho2 h3 h4
 .intro o ob1 b h1 h2;rcases hget o ob1 h1 with ⟨rfl,rfl⟩ | ⟨hne,hnR,ob1,ho1,rfl⟩
  .rcases hnew b h2 with ⟨q,obq,hq,hq1,hq2⟩ | h5
   .exact h.so.mine q obq b hq1 hq2
   exact .inl (jCi h.so.old.ext.size h5)
  rw[AO.own_mp,hl o hne]at h2;exact h.so.mine o _ b ho1 h2
 refine h.so.old.trans ⟨hos,htape,hout,hx,fun b hbl hs=>hb b hbl fun q obq hq hq1 hq2=>?_⟩;rcases h.so.mine q obq b hq1 hq2 with h1 | h1
 .exact hs (.inr h1)
 exact hs (.inl h1)
def jEa(size2:Nat):Loc->Loc
 | .row b off cap size n=>.nest b off cap size n size2 []
 | l=>l
def AV.nst(r:Nat):AV->AV
 | .hs x off=>bif Nat.beq x r then .ns r else .hs x off
 | c=>bif c.has r then .any else c
theorem Qsa{g g' :G}{r:Nat}(hx:Ext g.w g.u g'.w g'.u)(hl:∀k,k≠r->g'.loc k=g.loc k){c:AV}{v:Value}(h:Rel g c v):Rel g' (bif c.has r then .any else c) v:=Yza hx hl h
theorem rel_nst{g g' :G}{r size2:Nat}(hx:Ext g.w g.u g'.w g'.u)(hk:∀k,k≠r->g'.loc k=g.loc k)(hl:g'.loc r=jEa size2 (g.loc r)){c:AV}{v:Value}(h:Rel g c v):Rel g' (c.nst r) v:=by
 cases c
 case hs x off=>
  cases hb:Nat.beq x r with
  | true=>
   rw[show AV.nst r (.hs x off)=.ns r by show (bif Nat.beq x r then AV.ns r else AV.hs x off)=_;rw[hb];rfl];have:x=r:=jAn hb;subst this;cases h with
   | hsNil a h1=>exact .nsNil a (by rw[hl,h1];rfl)
   | hs h1 h2=>exact .ns (size2:=size2) (subs:=[]) (by rw[hl,h1];rfl) h2
  | false=>
   rw[show AV.nst r (.hs x off)=.hs x off by show (bif Nat.beq x r then AV.ns r else AV.hs x off)=_;rw[hb];rfl];have hne:x≠r:=by rintro rfl;simp at hb
   exact h.mono hx fun k hk' =>hk k (by have:=jAn (show Nat.beq x k=true from hk');subst this;exact hne)
 all_goals exact Qsa hx hk h
theorem St.nest{g:G}{a:Act}{r size:Nat}{e:TypeId}{elems:List (List PV)}(h:St E g a fr σ)(hr:σ.get r=some (.row e true size elems))(j:Nat)(e2:TypeId)(size2:Nat):
 St E ⟨g.w,g.u,fun k=>if k=r then jEa size2 (g.loc r) else g.loc k⟩ a (fr.mp (AV.on (AV.nst r))) (((σ.dels []).mp (AV.on (AV.nst r))).upd r (.nrow e size j e2 size2 0 elems)):=by
 have hl:(⟨g.w,g.u,fun k=>if k=r then jEa size2 (g.loc r) else g.loc k⟩:G).loc r=jEa size2 (g.loc r):=if_pos rfl;have hob:=h.so.obj r _ hr;have hbl:(jEa size2 (g.loc r)).block=(g.loc r).block/\(∀b,b∈(jEa size2 (g.loc r)).subs->(g.loc r).block=some b):=by
  cases hob with
  | nil h1=>rw[h1];exact ⟨rfl,fun b hb=>by cases hb⟩
  | row h1=>rw[h1];exact ⟨rfl,fun b hb=>by cases hb⟩
 refine h.turn (g' :=⟨g.w,g.u,fun k=>if k=r then jEa size2 (g.loc r) else g.loc k⟩) hr [] (by simp) _ rfl (fun c v=>vIb fun c v=>rel_nst (g:=g) (g' :=⟨g.w,g.u,fun k=>if k=r then jEa size2 (g.loc r) else g.loc k⟩) (Ext.refl _ _) (fun k hk=>if_neg hk) hl) (Ext.refl _ _) (fun k hk=>if_neg hk) rfl rfl rfl (fun _ _ _=>⟨rfl,rfl⟩) h.so.wf ?_ (fun b hb=>.inl ⟨r,_,.inl rfl,hr,?_⟩)
 .cases hob with
  | nil h1=>exact .nrowNil (by rw[hl,h1];rfl)
  | row h1 h2 h3 h4 h5 h6 h7 h8 h9=>exact .nrow (subs:=[]) (by rw[hl,h1];rfl) h2 h3 h4 h5 h6 (h8 rfl) rfl (jCs _) (by simp[zTa]) (fun i j' x c hi hj _=>h9 i j' x c hi hj) (fun i s x hi=>by simp at hi)
 rcases hb with hb | hb
 .rw[hl,hbl.1]at hb;exact hb
 rw[hl]at hb;exact hbl.2 b hb
theorem VOa{ops:Array Oper}{ol:List Oper}{size:Nat}{e:TypeId}{elems:List (List PV)}(r j:Nat)(e2:TypeId)(size2:Nat)(hr:σ.get r=some (.row e true size elems))
 (h:AWPL E ops ol (fr.mp (AV.on (AV.nst r))) (((σ.dels []).mp (AV.on (AV.nst r))).upd r (.nrow e size j e2 size2 0 elems)) K):AWPL E ops ol fr σ K:=
 ⟨fun g a hst=>h.go ⟨g.w,g.u,fun k=>if k=r then jEa size2 (g.loc r) else g.loc k⟩ a (hst.nest hr j e2 size2)⟩
def wda:Loc->Loc
 | .nest b off cap size n _ _=>.row b off cap size n
 | l=>l
def pubU(size2:Nat)(subs:List (Option (Nat × Nat × Nat × Nat)))(u:Nat->Nat)(k:Nat):Nat:=
 match subs with
 | []=>u k
 | some (b,off,_,n)::l=>if b=k then (off+n) * size2 else pubU size2 l u k
 | none::l=>pubU size2 l u k
def locU:Loc->(Nat->Nat)->Nat->Nat
 | .nest _ _ _ _ _ size2 subs,u=>pubU size2 subs u
 | _,u=>u
theorem qAa(s:Option (Nat × Nat × Nat × Nat))(l:List (Option (Nat × Nat × Nat × Nat))):zTa (s::l)=(match s with | some t=>[t.1] | none=>[])++zTa l:=by
 cases s <;> simp[zTa]
theorem vPa(l l' :List (Option (Nat × Nat × Nat × Nat))):zTa (l++l')=zTa l++zTa l' :=by simp[zTa]
theorem YSa{size2:Nat}{u:Nat->Nat}{k:Nat}:∀{subs:List (Option (Nat × Nat × Nat × Nat))},k ∉ zTa subs->pubU size2 subs u k=u k
 | [],_=>rfl
 | none::l,h=>YSa (subs:=l) (by simpa[qAa]using h)
 | some (b,off,cap,n)::l,h=>by
  simp only[qAa,jCg,jCc,not_or]at h;unfold pubU;rw[if_neg (Ne.symm h.1)];exact YSa h.2
theorem YTa{size2:Nat}{u:Nat->Nat}{b off cap n:Nat}:∀{subs:List (Option (Nat × Nat × Nat × Nat))} {i:Nat},(zTa subs).Nodup->subs[i]? =some (some (b,off,cap,n))->pubU size2 subs u b=(off+n) * size2
 | [],i,_,h=>by simp at h
 | none::l,0,_,h=>by simp at h
 | none::l,i+1,hd,h=>YTa (subs:=l) (by simpa[qAa]using hd) (by simpa using h)
 | some (b',off',cap',n')::l,0,_,h=>by
  simp only[jDp,Option.some.injEq]at h;cases h;unfold pubU;rw[if_pos rfl]
 | some (b',off',cap',n')::l,i+1,hd,h=>by
  simp only[List.getElem?_cons_succ]at h;simp only[qAa,List.singleton_append,jBn]at hd;unfold pubU;rw[if_neg (by rintro rfl;exact hd.1 (yfa h))];exact YTa hd.2 h
theorem jua.pub{w:World}{u:Nat->Nat}{e:TypeId}{mu:Bool}{size:Nat}{rows:List (List PV)}{s:Nat × Nat × Nat × Nat}{v:Value}(h:jua w u e mu size rows s v){u' :Nat->Nat}(hx:Ext0 w u w u')(hu:(s.2.1+s.2.2.2) * size<=u' s.1):RelP w u' (.sl none rows) v:=by
 obtain ⟨vs,h1,h2,h3⟩:=h.blk;have hv:=h.val;rw[<-h.n]at hv;subst hv;have hne:rows≠ []:=by rintro rfl;have:=h.pos;rw[<-h.n]at this;simp at this
 have hle:rows.length<=s.2.2.1:=by rw[h.n];exact h.le
 refine .sl size s.1 (s.2.1 * size) (fun i=>vs.getD (s.2.1 * size+i) undef) (fun x hx=>by cases hx) (fun hx=>by cases hx) hle h.z (fun _=>rfl) (fun _=>⟨?_,kNa h1⟩) (fun i hi=>?_) (fun i j x c hi hj=>?_)
 .rw[<-jAv,h.n];exact hu
 .refine kHa h1 ?_;rw[h2,jAv];have:=jAo size hle;omega
 have:=(h3 i j x c hi hj).mono0 hx;rw[show (s.2.1+i) * size+j=s.2.1 * size+(i * size+j) by rw[jAv];omega]at this;exact this
theorem Kxa.pub{w:World}{u:Nat->Nat}{e:TypeId}{size:Nat}{rows:List (List PV)}{s:Option (Nat × Nat × Nat × Nat)}{v:Value}(h:Kxa w u e size rows s v){u' :Nat->Nat}(hx:Ext0 w u w u')(hu:∀t,s=some t->(t.2.1+t.2.2.2) * size<=u' t.1):RelP w u' (.sl none rows) v:=by
 cases s with
 | none=>
  obtain ⟨rfl,a,cap,rfl,h0⟩:=h;have:=RelP.sl (w:=w) (u:=u') (nl:=none) (elems:=[]) (a:=a) (cap:=cap) 1 0 0 (fun _=>undef) (fun x hx=>by cases hx) (fun hx=>⟨h0 hx,rfl⟩) (by simp) (by simp) (by simp) (by simp) (fun i hi=>by simp at hi) (fun i j e c hi=>by simp at hi);exact this
 | some t=>exact jua.pub h hx (hu t rfl)
def AV.dnst(r:Nat):AV->AV
 | .ns x=>bif Nat.beq x r then .hs r 0 else .ns x
 | .np x i j=>bif Nat.beq x r then .hp x i j else .np x i j
 | c=>bif c.has r then .any else c
theorem rel_dnst{g g' :G}{r:Nat}(hx:Ext g.w g.u g'.w g'.u)(hk:∀k,k≠r->g'.loc k=g.loc k)(hl:g'.loc r=wda (g.loc r)){c:AV}{v:Value}(h:Rel g c v):Rel g' (c.dnst r) v:=by
 cases c
 case ns x=>
  cases hb:Nat.beq x r with
  | true=>
   rw[show AV.dnst r (.ns x)=.hs r 0 by show (bif Nat.beq x r then AV.hs r 0 else AV.ns x)=_;rw[hb];rfl];have:x=r:=jAn hb;subst this;cases h with
   | nsNil a h1=>exact .hsNil a (by rw[hl,h1];rfl)
   | ns h1 h2=>exact .hs (by rw[hl,h1];rfl) h2
  | false=>
   rw[show AV.dnst r (.ns x)=.ns x by show (bif Nat.beq x r then AV.hs r 0 else AV.ns x)=_;rw[hb];rfl];have hne:x≠r:=by rintro rfl;simp at hb
   exact h.mono hx fun k hk' =>hk k (by have:=jAn (show Nat.beq x k=true from hk');subst this;exact hne)
 case np x i j=>
  cases hb:Nat.beq x r with
  | true=>
   rw[show AV.dnst r (.np x i j)=.hp x i j by show (bif Nat.beq x r then AV.hp x i j else AV.np x i j)=_;rw[hb];rfl];have:x=r:=jAn hb;subst this;cases h with
   | np h1 h2=>exact .hp (by rw[hl,h1];rfl) h2
  | false=>
   rw[show AV.dnst r (.np x i j)=.np x i j by show (bif Nat.beq x r then AV.hp x i j else AV.np x i j)=_;rw[hb];rfl];have hne:x≠r:=by rintro rfl;simp at hb
   exact h.mono hx fun k hk' =>hk k (by have:=jAn (show Nat.beq x k=true from hk');subst this;exact hne)
 all_goals exact Qsa hx hk h
theorem St.denest{g:G}{a:Act}{r size j size2 m:Nat}{e e2:TypeId}{elems:List (List PV)}(h:St E g a fr σ)(hr:σ.get r=some (.nrow e size j e2 size2 m elems)):
 St E ⟨g.w,locU (g.loc r) g.u,fun k=>if k=r then wda (g.loc r) else g.loc k⟩ a (fr.mp (AV.on (AV.dnst r))) (((σ.dels []).mp (AV.on (AV.dnst r))).upd r (.row e true size elems)):=by
 have hl:(⟨g.w,locU (g.loc r) g.u,fun k=>if k=r then wda (g.loc r) else g.loc k⟩:G).loc r=wda (g.loc r):=if_pos rfl;have hob:=h.so.obj r _ hr;have hlt:∀b,(AO.nrow e size j e2 size2 m elems).own (g.loc r) b->b < g.w.heap.size:=fun b hb=>hob.block_lt hb
 have hu0:∀k,k ∉ (g.loc r).subs->locU (g.loc r) g.u k=g.u k:=by
  intro k hk;cases hg:g.loc r with
  | nest b off cap size' n size2' subs=>rw[hg]at hk;exact YSa hk
  | _=>rfl
 have hx:Ext g.w g.u g.w (locU (g.loc r) g.u):=⟨jBc _,fun k hk=>by
  by_cases hin:k∈(g.loc r).subs
  .cases hob with
   | nrowNil h1=>rw[h1]at hin;cases hin
   | @nrow _ _ _ _ _ _ _ b off cap vs subs h1 h2 h3 h4 h5 h6 h7 h8 h9 h10 h11 h12=>
    rw[h1]at hin ⊢;obtain ⟨s,hs,hsb⟩:=jDn.1 hin;cases s with
    | none=>cases hsb
    | some s=>
     cases hsb;obtain ⟨i,hi,hii⟩:=jCu hs;have hi' :subs[i]? =some (some s):=by rw[jAh hi,hii]
     have hie:i < elems.length:=by omega
     obtain ⟨rows,_,q2⟩:=h12 i _ _ hi' (jAh hie);show _<=pubU size2 subs g.u s.1;rw[YTa (jBn.1 h10).2 hi',jua.hmu q2 rfl];exact jCs _
  rw[hu0 k hin];exact jBc _,fun _ _ _ _=>rfl,fun _ h=>h⟩
 refine h.turn (g' :=⟨g.w,locU (g.loc r) g.u,fun k=>if k=r then wda (g.loc r) else g.loc k⟩) hr [] (by simp) _ rfl (fun c v=>vIb fun c v=>rel_dnst (g:=g) (g' :=⟨g.w,locU (g.loc r) g.u,fun k=>if k=r then wda (g.loc r) else g.loc k⟩) hx (fun k hk=>if_neg hk) hl) hx (fun k hk=>if_neg hk) rfl rfl rfl (fun b hb hn=>⟨rfl,hu0 b fun hin=>hn r _ (.inl rfl) hr (.inr hin)⟩) (fun k hk=>?_) ?_ (fun b hb=>.inl ⟨r,_,.inl rfl,hr,?_⟩)
 .show locU (g.loc r) g.u k=0;rw[hu0 k fun hin=>by have:=hlt k (.inr hin);exact absurd hk (by show ¬g.w.heap.size<=k;omega)];exact h.so.wf k hk
 .cases hob with
  | nrowNil h1=>exact .nil (by rw[hl,h1];rfl)
  | @nrow _ _ _ _ _ _ _ b off cap vs subs h1 h2 h3 h4 h5 h6 h7 h8 h9 h10 h11 h12=>
   have hub:locU (g.loc r) g.u b=0:=by rw[hu0 b (by rw[h1];exact (jBn.1 h10).1)];exact h7
   refine .row (by rw[hl,h1];rfl) h2 h3 h4 h5 h6 (by show locU (g.loc r) g.u b<=_;rw[hub];exact jCs _) (fun _=>hub) (fun i j' x c hi hj=>?_);by_cases hc:m<=i∨j' ≠j
   .exact (h11 i j' x c hi hj hc).mono hx
   have him:i < m:=by omega
   have hjj:j' =j:=by omega
   subst hjj;obtain ⟨rows,q1,q2⟩:=h12 i _ x (jAh (by omega:i < subs.length)) hi;rw[hj]at q1;cases q1;refine Kxa.pub q2 hx.to0 fun t ht=>?_
   show _<=locU (g.loc r) g.u t.1;rw[h1];have hi' :subs[i]? =some (some (t.1,t.2.1,t.2.2.1,t.2.2.2)):=by rw[jAh (by omega:i < subs.length),ht]
   exact jBw (YTa (jBn.1 h10).2 hi').symm
 show (g.loc r).block=some b∨_;have hb2:(wda (g.loc r)).block=some b:=by rw[<-hl];exact hb
 clear hb;left;cases hob with
 | nrowNil h1=>rw[h1]at hb2;cases hb2
 | nrow h1=>rw[h1]at hb2 ⊢;exact hb2
theorem zXb{ops:Array Oper}{ol:List Oper}{size j size2 m:Nat}{e e2:TypeId}{elems:List (List PV)}(r:Nat)(hr:σ.get r=some (.nrow e size j e2 size2 m elems))
 (h:AWPL E ops ol (fr.mp (AV.on (AV.dnst r))) (((σ.dels []).mp (AV.on (AV.dnst r))).upd r (.row e true size elems)) K):AWPL E ops ol fr σ K:=
 ⟨fun g a hst=>h.go ⟨g.w,locU (g.loc r) g.u,fun k=>if k=r then wda (g.loc r) else g.loc k⟩ a (hst.denest hr)⟩
theorem W4a{c:Code}{size j size2 m:Nat}{e e2:TypeId}{elems:List (List PV)}(r:Nat)(hr:σ.get r=some (.nrow e size j e2 size2 m elems))
 (h:AWP E c (fr.mp (AV.on (AV.dnst r))) (((σ.dels []).mp (AV.on (AV.dnst r))).upd r (.row e true size elems)) K):AWP E c fr σ K:=
 ⟨fun g a hst=>h.go ⟨g.w,locU (g.loc r) g.u,fun k=>if k=r then wda (g.loc r) else g.loc k⟩ a (hst.denest hr)⟩
end
section
open Go.RowKit Go.Lib Go.Proofs.Tryz
def nown(m:Nat)(n:Int):Option Bool:=if n.toNat < m then some true else none
theorem VPa{m:Nat}{n:Int}{r:Bool}(h:nown m n=some r):n.toNat < m:=by
 unfold nown at h;split at h
 .assumption
 cases h
def qmb(m:Nat)(n:Int):Option Bool:=if n.toNat=m then some true else none
theorem Qta{m:Nat}{n:Int}{r:Bool}(h:qmb m n=some r):n.toNat=m:=by
 unfold qmb at h;split at h
 .assumption
 cases h
def W5a(m:Nat)(n:Int):Option Bool:=if m<=n.toNat then some true else none
theorem Kka{m:Nat}{n:Int}{r:Bool}(h:W5a m n=some r):m<=n.toNat:=by
 unfold W5a at h;split at h
 .assumption
 cases h
variable {E:Env} {fr:Fr} {σ:Sto} {K:Post} {P:Program} {ρ:Operand->AV}
variable {dst:Option Tmp} {ty:TypeId} {pos:String} {af:Array Edge} {gu:Option (Nat × Bool)}
section
variable {α β:Type} {F:α->List PV} {G2:β->List PV} {l:List α} {l2:List β} {r size size2 bytes sb ss k j m:Nat} {e e2 t:TypeId} {zero sz:Value} {d:TypeDesc} {x y:Operand}
structure NAt (g:G) (r:Nat) (e:TypeId) (size j:Nat) (e2:TypeId) (size2 m:Nat) (F:α->List PV) (l:List α) (b off cap:Nat) (vs:Array Value) (subs:List (Option (Nat × Nat × Nat × Nat))):Prop where
 loc:g.loc r=.nest b off cap size l.length size2 subs
 heap:g.w.heap[b]? =some (.cells vs e (0,0))
 sz:vs.size=(off+cap) * size
 max:cap<=maxLen
 le:l.length<=cap
 z:∀x∈l,(F x).length=size
 u:g.u b=0
 sl:subs.length=m
 ml:m<=l.length
 nd:(b::zTa subs).Nodup
 cell:∀i j' x c,l[i]? =some x->(F x)[j']? =some c->(m<=i∨j' ≠j)->RelP g.w g.u c (vs.getD ((off+i) * size+j') undef)
 sub:∀i s x,subs[i]? =some s->l[i]? =some x->∃rows,(F x)[j]? =some (.sl none rows)/\Kxa g.w g.u e2 size2 rows s (vs.getD ((off+i) * size+j) undef)
theorem NAt.obj{g:G}{b off cap:Nat}{vs:Array Value}{subs:List (Option (Nat × Nat × Nat × Nat))}(h:NAt g r e size j e2 size2 m F l b off cap vs subs):RelO g r (.nrow e size j e2 size2 m (l.map F)):=
 .nrow (by rw[jAx];exact h.loc) h.heap h.sz h.max (by rw[jAx];exact h.le) (fun x hx=>by obtain ⟨y,hy,rfl⟩:=jCb.1 hx;exact h.z y hy) h.u h.sl (by rw[jAx];exact h.ml) h.nd
  (fun i j' x c hi hj hc=>by
   simp only[jAq,jAj]at hi;obtain ⟨y,hy,rfl⟩:=hi;exact h.cell i j' y c hy hj hc)
  (fun i s x hi hx=>by
   simp only[jAq,jAj]at hx;obtain ⟨y,hy,rfl⟩:=hx;exact h.sub i s y hi hy)
theorem vJb{g:G}(hob:RelO g r (.nrow e size j e2 size2 m (l.map F))):(g.loc r=.nilRow/\l=[]/\m=0)∨∃b off cap vs subs,NAt g r e size j e2 size2 m F l b off cap vs subs:=by
 generalize hls:l.map F=ls at hob;cases hob with
 | nrowNil hl=>exact .inl ⟨hl,by simpa using hls,rfl⟩
 | @nrow _ _ _ _ _ _ _ b off cap vs subs h1 h2 h3 h4 h5 h6 h7 h8 h9 h10 h11 h12=>
  subst hls;simp only[jAx]at h1 h5 h9;exact .inr ⟨b,off,cap,vs,subs,h1,h2,h3,h4,h5,fun x hx=>h6 _ (jBk hx),h7,h8,h9,h10,fun i j' x c hi hj hc=>h11 i j' (F x) c (by simp[hi]) hj hc,fun i s x hi hx=>h12 i s (F x) hi (by simp[hx])⟩
theorem QPa{g:G}{i:Nat}{v:α}(hob:RelO g r (.nrow e size j e2 size2 m (l.map F)))(hv:l[i]? =some v):∃b off cap vs subs,NAt g r e size j e2 size2 m F l b off cap vs subs:=by
 rcases vJb hob with ⟨_,rfl,_⟩ | h
 .simp at hv
 exact h
theorem JUa{g:G}{b off cap i j0:Nat}{vs:Array Value}{subs:List (Option (Nat × Nat × Nat × Nat))}{vp:Value}(h:NAt g r e size j e2 size2 m F l b off cap vs subs)(hp:Rel g (.np r i j0) vp):vp=.pointer (some ⟨b,(off+i) * size+j0,none⟩):=by
 cases hp with
 | np hl hi=>rw[h.loc]at hl;cases hl;rfl
theorem NAt.place{g:G}{b off cap i q:Nat}{vs:Array Value}{subs:List (Option (Nat × Nat × Nat × Nat))}(h:NAt g r e size j e2 size2 m F l b off cap vs subs)(hi:i < l.length)(hq:q < size):(off+i) * size+q < vs.size:=by
 rw[h.sz];exact zIb (s:=1) hi h.le hq
theorem zYb{tx:TypeId}(hx:ρ x=.ns r)(hr:σ.get r=some (.nrow e size j e2 size2 m (l.map F)))(ht:P.underlying t=some (.slice tx)):EvQ P ⟨dst,.call ⟨.builtin .len, #[x], #[t]⟩,ty,pos,af,gu⟩ ρ σ (.i l.length):=
 ⟨fun c=>by simp,fun g ρv h hs=>by
  have h1:=h x (by simp[Op.operands,Call.operands]);rw[hx]at h1;refine ⟨.int .i64 l.length,?_,.pv (.b rfl)⟩;generalize hv:ρv x=v at h1;rcases vJb (hs r _ hr) with ⟨hl,rfl,_⟩ | ⟨b,off,cap,vs,subs,hN⟩
  .cases h1 with
   | nsNil a h1=>simp[execOp,resolve,invoke,builtin,Builtin.len_,hv,go_sem,underlying,ht,goInt]
   | ns h1=>rw[hl]at h1;cases h1
  cases h1 with
  | nsNil a h1=>rw[hN.loc]at h1;cases h1
  | ns h1=>
   rw[hN.loc]at h1;cases h1;simp[execOp,resolve,invoke,builtin,Builtin.len_,hv,go_sem,underlying,ht,goInt]⟩
theorem VQa{n:Int}{kk:IntKind}{v:α}(hx:ρ x=.ns r)(hy:ρ y=.pv (.b (.int kk n)))(hr:σ.get r=some (.nrow e size j e2 size2 m (l.map F)))(ht:TyOk P t ss sb sz (.slice e))(he:TyOk P e size bytes zero d)(hv:idx l n=some v):
 EvQ P ⟨dst,.indexAddr t x y,ty,pos,af,gu⟩ ρ σ (.np r n.toNat 0):=
 ⟨fun c=>by simp,fun g ρv h hs=>by
  obtain ⟨h1,h2⟩:=ops2 (o:=⟨dst,.indexAddr t x y,ty,pos,af,gu⟩) (x:=x) (y:=y) rfl h;rw[hx]at h1;rw[hy]at h2;have e2:=koa h2;obtain ⟨hn0,hv⟩:=vCa hv;have hlt:n.toNat < l.length:=(jAc.1 hv).1;have hn2:n < l.length:=by omega
  obtain ⟨i,hi,hsz,hby,hzero⟩:=he.info;obtain ⟨b,off,cap,vs,subs,hN⟩:=QPa (hs r _ hr) hv;generalize ev:ρv x=vx at h1;cases h1 with
  | nsNil a h1=>rw[hN.loc]at h1;cases h1
  | ns h1 ha=>
   rw[hN.loc]at h1;cases h1;have ha:=ha (by have:=hN.le;omega);subst ha;refine ⟨.pointer (some ⟨b,(off+n.toNat) * size+0,none⟩),?_,.np hN.loc hlt⟩;simp[execOp,Instr.indexAt,e2,ev,go_sem,asIntOf,underlying,ht.u,sizeOf,typeInfo,hi,hsz,hn0,hn2,qpa,jAv]⟩
theorem VRa{i j0 f:Nat}{fs:Array Field}{fl:Field}{fsize fbytes:Nat}{fzero:Value}{fd:TypeDesc}(hx:ρ x=.np r i j0)(ht:P.underlying t=some (.struct fs))(hf:fs[f]? =some fl)(hft:TyOk P fl.type fsize fbytes fzero fd)(hz:Nat.beq fsize 0=false):
 EvQ P ⟨dst,.fieldAddr t x f,ty,pos,af,gu⟩ ρ σ (.np r i (j0+fl.offset)):=
 ⟨fun c=>by simp,fun g ρv h _=>by
  have h1:=h x (by simp[Op.operands]);rw[hx]at h1;generalize hv:ρv x=v at h1;cases h1 with
  | np hl hi=>
   have hz' :fsize≠0:=by rintro rfl;simp at hz
   refine ⟨_,?_,.np (j:=j0+fl.offset) hl hi⟩;simp[execOp,Instr.fieldAt,Instr.sureAddr,hv,go_sem,underlying,ht,hf,fieldPlace,hft.sizeOf,hz',qpa,jBs]⟩
theorem Q2a{i k0 j0 f:Nat}{fs:Array Field}{fl:Field}{fsize fbytes:Nat}{fzero:Value}{fd:TypeDesc}(hx:ρ x=.hnp r i k0 j0)(ht:P.underlying t=some (.struct fs))(hf:fs[f]? =some fl)(hft:TyOk P fl.type fsize fbytes fzero fd)(hz:Nat.beq fsize 0=false):
 EvQ P ⟨dst,.fieldAddr t x f,ty,pos,af,gu⟩ ρ σ (.hnp r i k0 (j0+fl.offset)):=
 ⟨fun c=>by simp,fun g ρv h _=>by
  have h1:=h x (by simp[Op.operands]);rw[hx]at h1;generalize hv:ρv x=v at h1;cases h1 with
  | hnp hl hs hk=>
   have hz' :fsize≠0:=by rintro rfl;simp at hz
   refine ⟨_,?_,.hnp (j:=j0+fl.offset) hl hs hk⟩;simp[execOp,Instr.fieldAt,Instr.sureAddr,hv,go_sem,underlying,ht,hf,fieldPlace,hft.sizeOf,hz',qpa,jBs]⟩
section
variable {t' :TypeId} {size' bytes' :Nat} {zero' :Value} {d' :TypeDesc} {n:Int} {j0:Nat} {v v' :α} {c:PV}
theorem wPa(hx:ρ x=.np r n.toNat j0)(hr:σ.get r=some (.nrow e size j e2 size2 m (l.map F)))(ht:TyOk P t' size' bytes' zero' d')(hd:dAgg d' =false)(hv:idx l n=some v)(hc:(F v)[j0]? =some c)(hj:Nat.beq j0 j=false∨m<=n.toNat):EvQ P ⟨dst,.load t' x,ty,pos,af,gu⟩ ρ σ (.pv c):=
 ⟨fun c=>by simp,fun g ρv h hs=>by
  have h1:=h x (by simp[Op.operands]);rw[hx]at h1;obtain ⟨hn0,hv⟩:=vCa hv;obtain ⟨b,off,cap,vs,subs,hN⟩:=QPa (hs r _ hr) hv;have e1:=JUa hN h1;have hjs:j0 < size:=by rw[<-hN.z v (jAd hv)];exact (jAc.1 hc).1
  have hlt:=(jAc.1 hv).1;refine ⟨_,vpa e1 (wGa ht hd (kHa hN.heap (hN.place hlt hjs))),.pv (hN.cell _ _ _ _ hv hc ?_)⟩;rcases hj with hj | hj
  .right;rintro rfl;simp at hj
  exact .inl hj⟩
theorem Qua(hx:ρ x=.np r n.toNat j0)(hr:σ.get r=some (.nrow e size j e2 size2 m (l.map F)))(ht:TyOk P t' size' bytes' zero' d')(hd:dAgg d' =true)(hv:idx l n=some v)(hle:Nat.ble (j0+size') (F v).length=true)(hj:(Nat.ble (j+1) j0 || Nat.ble (j0+size') j)=true∨m<=n.toNat):EvQ P ⟨dst,.load t' x,ty,pos,af,gu⟩ ρ σ (.agg ((((F v).drop j0).take size').map .pv)):=
 ⟨fun c=>by simp,fun g ρv h hs=>by
  have h1:=h x (by simp[Op.operands]);rw[hx]at h1;obtain ⟨hn0,hv⟩:=vCa hv;have hle:=jAe hle;obtain ⟨b,off,cap,vs,subs,hN⟩:=QPa (hs r _ hr) hv;have e1:=JUa hN h1;have hlt:=(jAc.1 hv).1;have hFz:=hN.z v (jAd hv);have hj' :∀q,q < size' ->m<=n.toNat∨j0+q≠j:=by
   intro q hq;rcases hj with hj | hj
   .right;simp only[jBx]at hj;rcases hj with hj | hj <;> have:=jAe hj <;> omega
   exact .inl hj
  have hrel:∀q,q < size' ->∃c,(F v)[j0+q]? =some c/\RelP g.w g.u c (vs.getD ((off+n.toNat) * size+(j0+q)) undef):=by
   intro q hq;have h2:j0+q < (F v).length:=by omega
   exact ⟨_,jAh h2,hN.cell _ _ _ _ hv (jAh h2) (hj' q hq)⟩
  refine ⟨_,vpa e1 (wHa ht hd (f:=fun q=>vs.getD ((off+n.toNat) * size+(j0+q)) undef) fun q hq=>?_),.agg (by simp;omega) (fun q hq=>?_) (fun q c hq=>?_)⟩
  .rw[jBs];exact kHa hN.heap (hN.place hlt (by omega))
  .simp only[List.size_toArray,jAx,List.length_range]at hq;rw[vLa _ _ _ hq];obtain ⟨c,_,hr⟩:=hrel q hq;exact hr.cellV
  simp only[jAq,jAj]at hq;obtain ⟨c',hc',rfl⟩:=hq;have hq2:q < size' :=by have:=(jAc.1 hc').1;simp at this;omega
  rw[jAt hq2,jBf]at hc';rw[vLa _ _ _ hq2];obtain ⟨c,hc,hr⟩:=hrel q hq2;rw[hc']at hc;cases hc;exact .pv hr⟩
theorem sub_val{g:G}{b off cap i:Nat}{vs:Array Value}{subs:List (Option (Nat × Nat × Nat × Nat))}{v:α}(hN:NAt g r e size j e2 size2 m F l b off cap vs subs)(hv:l[i]? =some v)(hm:i < m):Rel g (.hn r i) (vs.getD ((off+i) * size+j) undef):=by
 obtain ⟨s,hs⟩:∃s,subs[i]? =some s:=⟨_,jAh (by have:=hN.sl;omega)⟩;obtain ⟨rows,q1,q2⟩:=hN.sub i s v hs hv;cases s with
 | none=>
  obtain ⟨_,a,cp,hval,_⟩:=q2;rw[hval];exact .hnNil a cp hN.loc hs
 | some t=>
  rw[jua.val q2];exact .hn (b2:=t.1) (off2:=t.2.1) (cap2:=t.2.2.1) (n2:=t.2.2.2) hN.loc hs
theorem vKb{w:World}{u:Nat->Nat}{e:TypeId}{size:Nat}{rows:List (List PV)}{s:Option (Nat × Nat × Nat × Nat)}{v:Value}(h:Kxa w u e size rows s v):cellV v=true:=by
 cases s with
 | none=>obtain ⟨_,a,cap,rfl,_⟩:=h;rfl
 | some t=>rw[jua.val h];rfl
theorem YUa(hx:ρ x=.np r n.toNat j0)(hr:σ.get r=some (.nrow e size j e2 size2 m (l.map F)))(ht:TyOk P t' size' bytes' zero' d')(hd:dAgg d' =false)(hv:idx l n=some v)(hj:Nat.beq j0 j=true)(hm:n.toNat < m):EvQ P ⟨dst,.load t' x,ty,pos,af,gu⟩ ρ σ (.hn r n.toNat):=
 ⟨fun c=>by simp,fun g ρv h hs=>by
  have h1:=h x (by simp[Op.operands]);rw[hx]at h1;obtain rfl:=jAn hj;obtain ⟨hn0,hv⟩:=vCa hv;obtain ⟨b,off,cap,vs,subs,hN⟩:=QPa (hs r _ hr) hv;have e1:=JUa hN h1;have hlt:=(jAc.1 hv).1;obtain ⟨s,hss⟩:∃s,subs[n.toNat]? =some s:=⟨_,jAh (by have:=hN.sl;omega)⟩;obtain ⟨rows,q1,q2⟩:=hN.sub _ s v hss hv;have hjs:j0 < size:=by rw[<-hN.z v (jAd hv)];exact (jAc.1 q1).1
  exact ⟨_,vpa e1 (wGa ht hd (kHa hN.heap (hN.place hlt hjs))),sub_val hN hv hm⟩⟩
theorem sub_row{g:G}{b off cap i:Nat}{vs:Array Value}{subs:List (Option (Nat × Nat × Nat × Nat))}{v:α}{vx:Value}(hN:NAt g r e size j e2 size2 m F l b off cap vs subs)(hv:l[i]? =some v)(hF:(F v)[j]? =some (.sl none (l2.map G2)))(hx:Rel g (.hn r i) vx):
 (l2=[]/\∃a cp,vx=.slice a 0 cp)∨∃s,subs[i]? =some (some s)/\jua g.w g.u e2 true size2 (l2.map G2) s vx:=by
 cases hx with
 | hnNil a cp hl hs=>
  rw[hN.loc]at hl;cases hl;obtain ⟨rows,q1,q2⟩:=hN.sub i _ v hs hv;rw[hF]at q1;cases q1;exact .inl ⟨by simpa using q2.1,a,cp,rfl⟩
 | hn hl hs=>
  rw[hN.loc]at hl;cases hl;obtain ⟨rows,q1,q2⟩:=hN.sub i _ v hs hv;rw[hF]at q1;cases q1;refine .inr ⟨_,hs,?_⟩;have h:=jua.val q2;rw[h]at q2;exact q2
theorem YVa{n2:Int}{kk:IntKind}{w2:β}(hx:ρ x=.hn r n.toNat)(hy:ρ y=.pv (.b (.int kk n2)))(hr:σ.get r=some (.nrow e size j e2 size2 m (l.map F)))(ht:TyOk P t ss sb sz (.slice e2))(he:TyOk P e2 size2 bytes zero d)(hv:idx l n=some v)(hF:(F v)[j]? =some (.sl none (l2.map G2)))(hv2:idx l2 n2=some w2):
 EvQ P ⟨dst,.indexAddr t x y,ty,pos,af,gu⟩ ρ σ (.hnp r n.toNat n2.toNat 0):=
 ⟨fun c=>by simp,fun g ρv h hs=>by
  obtain ⟨h1,h2⟩:=ops2 (o:=⟨dst,.indexAddr t x y,ty,pos,af,gu⟩) (x:=x) (y:=y) rfl h;rw[hx]at h1;rw[hy]at h2;have ey:=koa h2;obtain ⟨hn0,hv⟩:=vCa hv;obtain ⟨hn20,hv2⟩:=vCa hv2;have hlt:n2.toNat < l2.length:=(jAc.1 hv2).1;have hn2:n2 < l2.length:=by omega
  obtain ⟨i,hi,hsz,hby,hzero⟩:=he.info;obtain ⟨b,off,cap,vs,subs,hN⟩:=QPa (hs r _ hr) hv;rcases sub_row hN hv hF h1 with ⟨rfl,a,cp,e1⟩ | ⟨s,hss,hR⟩
  .simp at hlt
  have e1:=hR.val;have en:=hR.n;rw[jAx]at en;refine ⟨.pointer (some ⟨s.1,(s.2.1+n2.toNat) * size2+0,none⟩),?_,.hnp (b2:=s.1) (off2:=s.2.1) (cap2:=s.2.2.1) (n2:=s.2.2.2) hN.loc hss (by omega)⟩;rw[<-en]at e1;simp[execOp,Instr.indexAt,ey,e1,go_sem,asIntOf,underlying,ht.u,sizeOf,typeInfo,hi,hsz,hn20,hn2,qpa,jAv]⟩
theorem hnp_val{g:G}{b off cap i k0 j2:Nat}{vs:Array Value}{subs:List (Option (Nat × Nat × Nat × Nat))}{v:α}{vp:Value}(hN:NAt g r e size j e2 size2 m F l b off cap vs subs)(hv:l[i]? =some v)(hF:(F v)[j]? =some (.sl none (l2.map G2)))(hp:Rel g (.hnp r i k0 j2) vp):
 ∃s val,subs[i]? =some (some s)/\jua g.w g.u e2 true size2 (l2.map G2) s val/\vs.getD ((off+i) * size+j) undef=val/\k0 < l2.length/\vp=.pointer (some ⟨s.1,(s.2.1+k0) * size2+j2,none⟩):=by
 cases hp with
 | hnp hl hs hk=>
  rw[hN.loc]at hl;cases hl;obtain ⟨rows,q1,q2⟩:=hN.sub i _ v hs hv;rw[hF]at q1;cases q1;have:=q2.n;rw[jAx]at this;exact ⟨_,_,hs,q2,rfl,by rw[this];exact hk,rfl⟩
theorem jua.lt{w:World}{u:Nat->Nat}{mu:Bool}{s:Nat × Nat × Nat × Nat}{vx:Value}{i q:Nat}{vs:Array Value}(h:jua w u e mu size (l.map F) s vx)(hsz:vs.size=(s.2.1+s.2.2.1) * size)(hi:i < l.length)(hq:q < size):(s.2.1+i) * size+q < vs.size:=by
 rw[hsz];have h1:=h.n;have h2:=h.le;rw[jAx]at h1;exact zIb (s:=1) (n:=l.length) hi (by omega) hq
end
end
end
section
open Go.RowKit Go.Lib Go.Proofs.Tryz
structure Wrote (w w' :World) (b p:Nat) (t:TypeId) (cur new:Array Value) (cl:List Value):Prop where
 os:w'.os=w.os
 tape:w'.tape=w.tape
 output:w'.output=w.output
 size:w'.heap.size=w.heap.size
 other:∀k,k≠b->w'.heap[k]? =w.heap[k]?
 here:w'.heap[b]? =some (.cells new t (0,0))
 sz:new.size=cur.size
 inn:∀q,q < cl.length->new.getD (p+q) undef=cl.getD q undef
 out:∀q,(q < p∨p+cl.length<=q)->new.getD q undef=cur.getD q undef
theorem JVa{w:World}{b p:Nat}{t:TypeId}{cur:Array Value}{cl:List Value}(h:w.heap[b]? =some (.cells cur t (0,0)))(hf:p+cl.length<=cur.size):Wrote w (w.setRow b (cur.toList.take p++cl++cur.toList.drop (p+cl.length)).toArray) b p t cur (cur.toList.take p++cl++cur.toList.drop (p+cl.length)).toArray cl where
 os:=rfl
 tape:=rfl
 output:=rfl
 size:=by simp[World.setRow]
 other k hk:=by simp only[World.setRow,jCo];rw[if_neg (Ne.symm hk)]
 here:=setRow_heap w b cur _ t _ h
 sz:=by simp;omega
 inn q hq:=by
  rw[jAg,jBt,jAp,jAk (by simp;omega),jAl (by simp;omega),jAm]
  congr 2
  simp;omega
 out q hq:=by
  rw[jAg,jBt,jAp,jAg];rcases hq with hq | hq
  .rw[jAl (by simp;omega),jAt hq,jBu]
  rw[jAk (by simp;omega),jAk (by simp;omega),jBf,jBu]
  congr 2
  simp;omega
theorem Wrote.ext{w w' :World}{b p:Nat}{t:TypeId}{cur new:Array Value}{cl:List Value}{u:Nat->Nat}(h:Wrote w w' b p t cur new cl)(hb:w.heap[b]? =some (.cells cur t (0,0)))(hu:u b=0):Ext w u w' u:=⟨jBw h.size.symm,fun _ _=>jBc _,fun k i hk hi=>by
 by_cases hkb:k=b
 .subst hkb;omega
 simp only[World.cell?];rw[h.other k hkb],fun r hr=>(h.other r (by rintro rfl;rw[hb]at hr;cases hr)).trans hr⟩
theorem sub_ne:∀{subs:List (Option (Nat × Nat × Nat × Nat))} {i i' :Nat} {s s' :Nat × Nat × Nat × Nat},(zTa subs).Nodup->subs[i]? =some (some s)->subs[i']? =some (some s')->i≠i' ->s.1≠s'.1
 | [],i,_,_,_,_,h,_,_=>by simp at h
 | x::l,0,0,_,_,_,_,_,hne=>absurd rfl hne
 | x::l,0,i' +1,s,s',hd,h1,h2,_=>by
  simp only[jDp,Option.some.injEq]at h1;subst h1;simp only[qAa,List.singleton_append,jBn]at hd;rintro he;exact hd.1 (he▸yfa (by simpa using h2))
 | x::l,i+1,0,s,s',hd,h1,h2,_=>by
  simp only[jDp,Option.some.injEq]at h2;subst h2;simp only[qAa,List.singleton_append,jBn]at hd;rintro he;exact hd.1 (he▸yfa (by simpa using h1))
 | x::l,i+1,i' +1,s,s',hd,h1,h2,hne=>by
  refine sub_ne (subs:=l) ?_ (by simpa using h1) (by simpa using h2) (by omega);rw[qAa]at hd;exact (List.nodup_append.1 hd).2.1
theorem QQa{vs:Array Value}(h:∀i,i < vs.size->cellV (vs.getD i undef)=true):∀u∈vs.toList,u.oneCell' =true:=by
 intro u hu;obtain ⟨i,hi,rfl⟩:=jCu hu;have h0:=h i (by simpa using hi);rw[show vs.getD i undef=vs.toList[i] by simp[Array.getD,show i < vs.size by simpa using hi]]at h0;cases hcase:vs.toList[i] <;> rw[hcase]at h0 <;> first | rfl | simp[cellV]at h0
theorem ypa{P:Program}{ρv:Operand->Value}{w:World}{b p:Nat}{t t' :TypeId}{x y:Operand}{cur:Array Value}{size' bytes' :Nat}{zero' :Value}{d' :TypeDesc}{ty:TypeId}{pos:String}{af:Array Edge}{gu:Option (Nat × Bool)}
 (hx:ρv x=.pointer (some ⟨b,p,none⟩)) (ht:TyOk P t' size' bytes' zero' d') (hn:(ρv y).cells.size=size') (hc:∀i,i < (ρv y).cells.size->cellV ((ρv y).cells.getD i undef)=true) (hb:w.heap[b]? =some (.cells cur t (0,0))) (hf:p+size' <=cur.size):
 ∃w' new,(execOp ρv ⟨none,.store t' x y,ty,pos,af,gu⟩).run P w=.ok .skip w' /\Wrote w w' b p t cur new (ρv y).cells.toList:=by
 have hs:=run_storeCells_at (P:=P) b p t (ρv y).cells.toList 0 cur w hb (by simp;omega) (QQa hc);simp only[jCk]at hs;refine ⟨_,_,?_,JVa hb (by simp;omega)⟩;show Sem.run P (do Instr.storeAt t' (ρv x) (ρv y);pure Next.skip) w=_;rw[hx];simp only[Instr.storeAt,Instr.sureAddr,storeVar,jAu,jBd,jAs,ht.sizeOf];rw[if_neg (by rw[hn];simp)];simp only[jAu,jBd,jAs,hs]
variable {E:Env} {fr:Fr} {σ:Sto} {K:Post} {P:Program} {ρ:Operand->AV}
variable {dst:Option Tmp} {ty:TypeId} {pos:String} {af:Array Edge} {gu:Option (Nat × Bool)}
section
variable {α β:Type} {F:α->List PV} {G2:β->List PV} {l:List α} {l2:List β} {r r2 size size2 bytes sb ss k j m:Nat} {e e2 t:TypeId} {zero sz:Value} {d:TypeDesc} {x y:Operand}
variable {t' :TypeId} {size' bytes' :Nat} {zero' :Value} {d' :TypeDesc} {n:Int} {j0:Nat} {v v' :α} {c:PV}
theorem YWa{off i i' q j0 len size:Nat}(hq:q < size)(hj:j0+len<=size)(h:i' ≠i∨q < j0∨j0+len<=q):(off+i') * size+q < (off+i) * size+j0∨(off+i) * size+j0+len<=(off+i') * size+q:=by
 by_cases hi:i' =i
 .subst hi;omega
 rcases jBg i' i with h2 | h2
 .have:(off+i' +1) * size<=(off+i) * size:=jAo _ (by omega);rw[jAv (off+i')]at this;omega
 have:(off+i+1) * size<=(off+i') * size:=jAo _ (by omega);rw[jAv (off+i)]at this;omega
theorem Zia{pcs:List PV}(hx:fr.ev x=.np r n.toNat j0)(hr:σ.get r=some (.nrow e size j e2 size2 m (l.map F)))(hy:(fr.ev y).weak.cells=some (pcs.map .pv))(ht:TyOk E.P t' size' bytes' zero' d')(hz:Nat.beq pcs.length size' =true)
 (hv:idx l n=some v) (hle:Nat.ble (j0+pcs.length) (F v).length=true) (hj:(Nat.ble (j+1) j0 || Nat.ble (j0+pcs.length) j)=true) (hF' :F v' =(F v).take j0++pcs++(F v).drop (j0+pcs.length)):
 OpTo E ⟨none,.store t' x y,ty,pos,af,gu⟩ fr σ fr (σ.upd r (.nrow e size j e2 size2 m ((l.set n.toNat v').map F))):=
 ⟨fun g a K Q hst hK=>by
  have hle:=jAe hle;have hz:=jAn hz;have hj:j < j0∨j0+pcs.length<=j:=by
   simp only[jBx]at hj;rcases hj with hj | hj <;> have:=jAe hj <;> omega
  refine ⟨fun _ _=>trivial,?_⟩;rw[jAy _ _ _ (fun c=>by simp)];have h1:=hst.ev x;rw[hx]at h1;obtain ⟨hn0,hv⟩:=vCa hv;obtain ⟨b,off,cap,cur,subs,hN⟩:=QPa (hst.so.obj r _ hr) hv;have e1:=JUa hN h1;obtain ⟨v1,v2,v3⟩:=yha (vha (hst.ev y)) hy;rw[jAx]at v1;have hlt:=(jAc.1 hv).1;have hFz:=hN.z v (jAd hv);have hfit:(off+n.toNat) * size+j0+pcs.length<=cur.size:=by rw[hN.sz];exact zIb hlt hN.le (by omega)
  obtain ⟨w',new,hrun,hW⟩:=ypa (P:=E.P) (w:=g.w) (ty:=ty) (pos:=pos) (af:=af) (gu:=gu) e1 ht (by omega) v2 hN.heap (by omega);rw[hrun,Oper.uponIn_skip];have hcl:(a.eval y).cells.toList.length=pcs.length:=by simpa using v1
  have hxx:=hW.ext (u:=g.u) hN.heap hN.u;have hFv' :(F v').length=size:=by rw[hF'];simp;omega
  have hjl:((F v).take j0).length=j0:=by simp;omega
  have hF1:∀q,(q < j0∨j0+pcs.length<=q)->(F v')[q]? =(F v)[q]? :=by
   intro q hq;rw[hF',jAp];rcases hq with hq | hq
   .rw[jAl (by omega),jAt hq]
   rw[jAk (by omega),hjl,jAk (by omega),jBf]
   congr 1;omega
  have hF2:∀q,q < pcs.length->(F v')[j0+q]? =pcs[q]? :=by
   intro q hq;rw[hF',jAp,jAk (by omega),hjl,jAl (by omega)]
   congr 1;omega
  have hkeep:∀i' q,q < size->(i' ≠n.toNat∨q < j0∨j0+pcs.length<=q)->new.getD ((off+i') * size+q) undef=cur.getD ((off+i') * size+q) undef:=fun i' q hq h=>hW.out _ (by rw[hcl];exact YWa hq (by omega) h)
  have hN' :NAt ⟨w',g.u,g.loc⟩ r e size j e2 size2 m F (l.set n.toNat v') b off cap new subs:=by
   refine ⟨by rw[jCj];exact hN.loc,hW.here,hW.sz.trans hN.sz,hN.max,by rw[jCj];exact hN.le,fun z hz' =>?_,hN.u,hN.sl,by rw[jCj];exact hN.ml,hN.nd,fun i' j' z c hi' hj' hc=>?_,fun i' s z hs hz' =>?_⟩
   .rcases jBv hz' with h2 | rfl
    .exact hN.z z h2
    exact hFv'
   .by_cases hin:i' =n.toNat
    .subst hin;rw[jBo hlt]at hi';cases hi';have hjs:j' < size:=by rw[<-hFv'];exact (jAc.1 hj').1
     by_cases hr' :j' < j0∨j0+pcs.length<=j'
     .rw[hkeep _ j' hjs (.inr hr')];rw[hF1 j' hr']at hj';exact (hN.cell _ j' v c hv hj' hc).mono hxx
     have hq:j' - j0 < pcs.length:=by omega
     have:=hF2 (j' - j0) hq;rw[show j0+(j' - j0)=j' by omega,hj']at this;have h5:=v3 (j' - j0) (.pv c) (by simp[<-this]);cases h5 with
     | pv h5=>
      have h6:=hW.inn (j' - j0) (by omega);rw[show (off+n.toNat) * size+j0+(j' - j0)=(off+n.toNat) * size+j' by omega]at h6;rw[h6];have h7:=h5.mono hxx;simpa using h7
    rw[jBp (by omega)]at hi';have hjs:j' < size:=by rw[<-hN.z z (jAd hi')];exact (jAc.1 hj').1
    rw[hkeep i' j' hjs (.inl hin)];exact (hN.cell i' j' z c hi' hj' hc).mono hxx
   obtain ⟨z0,hz0,hFz0⟩:∃z0,l[i']? =some z0/\(F z)[j]? =(F z0)[j]? :=by
    by_cases hin:i' =n.toNat
    .subst hin;rw[jBo hlt]at hz';cases hz';exact ⟨v,hv,hF1 j hj⟩
    rw[jBp (by omega)]at hz';exact ⟨z,hz',rfl⟩
   obtain ⟨rows,q1,q2⟩:=hN.sub i' s z0 hs hz0;have hjs:j < size:=by rw[<-hN.z z0 (jAd hz0)];exact (jAc.1 q1).1
   refine ⟨rows,hFz0.trans q1,?_⟩;rw[hkeep i' j hjs (.inr hj)];refine q2.mono hxx.to0 fun t ht=>⟨hW.other t.1 ?_,rfl⟩
   rintro rfl;subst ht;exact (jBn.1 hN.nd).1 (yfa hs)
  exact hK ⟨w',g.u,g.loc⟩ _ (St.put_none (hst.objset hr hxx rfl hW.os hW.tape hW.output (fun k hk hne=>⟨hW.other k (by rintro rfl;exact hne (by rw[hN.loc];exact .inl rfl)),rfl⟩) (yWa hst.so.wf (jBw hW.size.symm) _) hN'.obj (fun _=>rfl)))⟩
theorem jFa{pcs:List PV}{n2:Int}{w2 w2' :β}(hx:fr.ev x=.hnp r n.toNat n2.toNat j0)(hr:σ.get r=some (.nrow e size j e2 size2 m (l.map F)))(hy:(fr.ev y).weak.cells=some (pcs.map .pv))(ht:TyOk E.P t' size' bytes' zero' d')(hz:Nat.beq pcs.length size' =true)
 (hv:idx l n=some v) (hF:(F v)[j]? =some (.sl none (l2.map G2))) (hv2:idx l2 n2=some w2) (hle:Nat.ble (j0+pcs.length) (G2 w2).length=true) (hG' :G2 w2' =(G2 w2).take j0++pcs++(G2 w2).drop (j0+pcs.length)) (hF' :F v' =(F v).set j (.sl none ((l2.set n2.toNat w2').map G2))):
 OpTo E ⟨none,.store t' x y,ty,pos,af,gu⟩ fr σ fr (σ.upd r (.nrow e size j e2 size2 m ((l.set n.toNat v').map F))):=
 ⟨fun g a K Q hst hK=>by
  have hle:=jAe hle;have hz:=jAn hz;refine ⟨fun _ _=>trivial,?_⟩;rw[jAy _ _ _ (fun c=>by simp)];have h1:=hst.ev x;rw[hx]at h1;obtain ⟨hn0,hv⟩:=vCa hv;obtain ⟨hn20,hv2⟩:=vCa hv2;obtain ⟨b,off,cap,cur,subs,hN⟩:=QPa (hst.so.obj r _ hr) hv;obtain ⟨s,val,hss,hR,hval,hk,e1⟩:=hnp_val hN hv hF h1;obtain ⟨vs2,b1,b2,b3⟩:=hR.blk;obtain ⟨v1,v2,v3⟩:=yha (vha (hst.ev y)) hy;rw[jAx]at v1;have hlt:=(jAc.1 hv).1;have hFz:=hN.z v (jAd hv);have hGz:=hR.z _ (jBk (jAd hv2));have hu2:=hR.hmu rfl;have hRn:=hR.n;rw[jAx]at hRn;have hfit:(s.2.1+n2.toNat) * size2+j0+pcs.length<=vs2.size:=by rw[b2];exact zIb (n:=l2.length) hk (by have:=hR.le;omega) (by omega)
  obtain ⟨w',new,hrun,hW⟩:=ypa (P:=E.P) (w:=g.w) (ty:=ty) (pos:=pos) (af:=af) (gu:=gu) e1 ht (by omega) v2 b1 (by omega);rw[hrun,Oper.uponIn_skip];have hcl:(a.eval y).cells.toList.length=pcs.length:=by simpa using v1
  have hxx:=hW.ext (u:=g.u) b1 hu2;have hG2:(G2 w2').length=size2:=by rw[hG'];simp;omega
  have hjl:((G2 w2).take j0).length=j0:=by simp;omega
  have hsb:s.1≠b:=by rintro rfl;exact (jBn.1 hN.nd).1 (yfa hss)
  have hF1:∀q,q≠j->(F v')[q]? =(F v)[q]? :=fun q hq=>by rw[hF',jBp (Ne.symm hq)]
  have hjs:j < (F v).length:=(jAc.1 hF).1;have hFj:(F v')[j]? =some (.sl none ((l2.set n2.toNat w2').map G2)):=by rw[hF',jBo hjs]
  have hFv' :(F v').length=size:=by rw[hF',jCj,hFz]
  have hR' :jua w' g.u e2 true size2 ((l2.set n2.toNat w2').map G2) s val:=by
   refine ⟨hR.val,by simp[hRn],hR.pos,⟨new,hW.here,hW.sz.trans b2,fun i' j' z c hi' hj' =>?_⟩,hR.cap,hR.le,fun z hz' =>?_,hR.hu,hR.hmu⟩
   .simp only[jAq,jAj]at hi';obtain ⟨z,hi',rfl⟩:=hi';by_cases hin:i' =n2.toNat
    .subst hin;rw[jBo hk]at hi';cases hi';have hjs' :j' < size2:=by rw[<-hG2];exact (jAc.1 hj').1
     by_cases hr' :j' < j0∨j0+pcs.length<=j'
     .rw[hW.out _ (by rw[hcl];exact YWa hjs' (by omega) (.inr hr'))];have hj2:(G2 w2)[j']? =some c:=by
       rw[<-hj',hG',jAp];rcases hr' with hq | hq
       .rw[jAl (by omega),jAt hq]
       rw[jAk (by omega),hjl,jAk (by omega),jBf]
       congr 1;omega
      exact (b3 _ j' _ c (by simp[hv2]) hj2).mono hxx
     have hq:j' - j0 < pcs.length:=by omega
     have hj2:pcs[j' - j0]? =some c:=by
      rw[<-hj',hG',jAp,jAk (by omega),hjl,jAl (by omega)]
     have h5:=v3 (j' - j0) (.pv c) (by simp[hj2]);cases h5 with
     | pv h5=>
      have h6:=hW.inn (j' - j0) (by omega);rw[show (s.2.1+n2.toNat) * size2+j0+(j' - j0)=(s.2.1+n2.toNat) * size2+j' by omega]at h6;rw[h6];have h7:=h5.mono hxx;simpa using h7
    rw[jBp (by omega)]at hi';have hzz:=hR.z _ (jBk (jAd hi'));have hjs' :j' < size2:=by rw[<-hzz];exact (jAc.1 hj').1
    rw[hW.out _ (by rw[hcl];exact YWa hjs' (by omega) (.inl hin))];exact (b3 i' j' _ c (by simp[hi']) hj').mono hxx
   obtain ⟨z0,hz0,rfl⟩:=jCb.1 hz';rcases jBv hz0 with h2 | rfl
   .exact hR.z _ (jBk h2)
   exact hG2
  have hN' :NAt ⟨w',g.u,g.loc⟩ r e size j e2 size2 m F (l.set n.toNat v') b off cap cur subs:=by
   refine ⟨by rw[jCj];exact hN.loc,(hW.other b (Ne.symm hsb)).trans hN.heap,hN.sz,hN.max,by rw[jCj];exact hN.le,fun z hz' =>?_,hN.u,hN.sl,by rw[jCj];exact hN.ml,hN.nd,fun i' j' z c hi' hj' hc=>?_,fun i' s' z hs hz' =>?_⟩
   .rcases jBv hz' with h2 | rfl
    .exact hN.z z h2
    exact hFv'
   .by_cases hin:i' =n.toNat
    .subst hin;rw[jBo hlt]at hi';cases hi';have him:n.toNat < m:=by have:=(jAc.1 hss).1;have:=hN.sl;omega
     have hjj:j' ≠j:=by
      rcases hc with hc | hc; · omega
      exact hc
     rw[hF1 j' hjj]at hj';exact (hN.cell _ j' v c hv hj' hc).mono hxx
    rw[jBp (by omega)]at hi';exact (hN.cell i' j' z c hi' hj' hc).mono hxx
   by_cases hin:i' =n.toNat
   .subst hin;rw[jBo hlt]at hz';cases hz';rw[hss]at hs;cases hs;exact ⟨_,hFj,by rw[hval];exact hR'⟩
   rw[jBp (by omega)]at hz';obtain ⟨rows,q1,q2⟩:=hN.sub i' s' z hs hz';refine ⟨rows,q1,q2.mono hxx.to0 fun t ht=>⟨hW.other t.1 ?_,rfl⟩⟩;subst ht;exact sub_ne (jBn.1 hN.nd).2 hs hss hin
  exact hK ⟨w',g.u,g.loc⟩ _ (St.put_none (hst.objset hr hxx rfl hW.os hW.tape hW.output (fun k hk hne=>⟨hW.other k (by rintro rfl;exact hne (by rw[hN.loc];exact .inr (yfa hss))),rfl⟩) (yWa hst.so.wf (jBw hW.size.symm) _) hN'.obj (fun _=>rfl)))⟩
end
end
section
open Go.RowKit Go.Lib Go.Proofs.Tryz
def Wya(l l' :Loc):Prop:=l' =l∨(∃b off cap size n size2 subs more,l=.nest b off cap size n size2 subs/\l' =.nest b off cap size n size2 (subs++more))∨∃b subs subs',l=.mapr b subs/\l' =.mapr b subs'
theorem Wya.plain{l l' :Loc}(h:Wya l l')(hn:∀b off cap size n size2 subs,l≠ .nest b off cap size n size2 subs/\l≠ .mapr b subs):l' =l:=by
 rcases h with h | ⟨b,off,cap,size,n,size2,subs,more,h,_⟩ | ⟨b,subs,subs',h,_⟩
 .exact h
 .exact absurd h (hn _ _ _ _ _ _ _).1
 exact absurd h (hn b 0 0 0 0 0 subs).2
theorem Wya.mapr{l' :Loc}{b:Nat}{subs:List (Option (Nat × Nat × Nat × Nat))}(h:Wya (.mapr b subs) l'):∃subs',l' =.mapr b subs' :=by
 rcases h with h | ⟨b',off',cap',size',n',size2',subs',more,h,h2⟩ | ⟨b',s1,s2,h,h2⟩
 .exact ⟨_,h⟩
 .cases h
 cases h;exact ⟨_,h2⟩
theorem Wya.nest{l' :Loc}{b off cap size n size2:Nat}{subs:List (Option (Nat × Nat × Nat × Nat))}(h:Wya (.nest b off cap size n size2 subs) l'):∃more,l' =.nest b off cap size n size2 (subs++more):=by
 rcases h with h | ⟨b',off',cap',size',n',size2',subs',more,h,h2⟩ | ⟨b',s1,s2,h,h2⟩
 .exact ⟨[],by rw[jCn];exact h⟩
 .cases h;exact ⟨more,h2⟩
 cases h
theorem YXa{α:Type}{l more:List α}{i:Nat}{x:α}(h:l[i]? =some x):(l++more)[i]? =some x:=by
 rw[jAl (jAc.1 h).1];exact h
theorem Rel.more{g g' :G}(hx:Ext g.w g.u g'.w g'.u){c:AV}{v:Value}(h:Rel g c v):(∀o,c.has o=true->Wya (g.loc o) (g'.loc o))->Rel g' c v:=by
 have hx0:=hx.to0;induction h with
 | any v=>exact fun _=>.any v
 | pv h=>exact fun _=>.pv (h.mono0 hx0)
 | @agg cs vs hl hc h ih=>exact fun hh=>.agg hl hc (fun i c hi=>ih i c hi fun o ho=>hh o (by unfold AV.has;exact AV.hasL_of hi ho))
 | @tup cs vs hl h ih=>exact fun hh=>.tup hl (fun i c hi=>ih i c hi fun o ho=>hh o (by unfold AV.has;exact AV.hasL_of hi ho))
 | @ptr o off b hl=>exact fun hh=>.ptr (by have:=hh o (by simp[AV.has]);rw[hl]at this;exact this.plain (by intros;simp))
 | @ep cells b off val hu hb hcell h=>exact fun hh=>Rel.mono hx (.ep val hu hb hcell h) (fun o ho=>by cases ho)
 | @hsNil r a hl=>exact fun hh=>.hsNil a (by have:=hh r (by simp[AV.has]);rw[hl]at this;exact this.plain (by intros;simp))
 | @hs r b off cap size n a hl ha=>exact fun hh=>.hs (by have:=hh r (by simp[AV.has]);rw[hl]at this;exact this.plain (by intros;simp)) ha
 | @hp r idx j b off cap size n hl hi=>exact fun hh=>.hp (by have:=hh r (by simp[AV.has]);rw[hl]at this;exact this.plain (by intros;simp)) hi
 | @fn f first captured fv cv h1 h2 hf hc ihf ihc=>
  exact fun hh=>.fn h1 h2 (fun i c hi=>ihf i c hi fun o ho=>hh o (by simp[AV.has,AV.hasL_of hi ho])) (fun i c hi=>ihc i c hi fun o ho=>hh o (by simp[AV.has,AV.hasL_of hi ho]))
 | @mp o b hl=>exact fun hh=>.mp (by have:=hh o (by simp[AV.has]);rw[hl]at this;exact this.plain (by intros;simp))
 | @hsubNil r lo a hl=>exact fun hh=>.hsubNil a (by have:=hh r (by simp[AV.has]);rw[hl]at this;exact this.plain (by intros;simp))
 | @hsub r lo b off cap size n a hl hle ha=>exact fun hh=>.hsub (by have:=hh r (by simp[AV.has]);rw[hl]at this;exact this.plain (by intros;simp)) hle ha
 | z0 a=>exact fun _=>.z0 a
 | ifc h=>exact fun _=>.ifc h
 | @hpreNil r a hl=>exact fun hh=>.hpreNil a (by have:=hh r (by simp[AV.has]);rw[hl]at this;exact this.plain (by intros;simp))
 | @hpre r hi b off cap size n a hl hle ha=>exact fun hh=>.hpre (by have:=hh r (by simp[AV.has]);rw[hl]at this;exact this.plain (by intros;simp)) hle ha
 | @nsNil r a hl=>exact fun hh=>.nsNil a (by have:=hh r (by simp[AV.has]);rw[hl]at this;exact this.plain (by intros;simp))
 | @ns r b off cap size n size2 subs a hl ha=>exact fun hh=>by have:=hh r (by simp[AV.has]);rw[hl]at this;obtain ⟨more,h2⟩:=this.nest;exact .ns h2 ha
 | @np r idx j b off cap size n size2 subs hl hi=>exact fun hh=>by have:=hh r (by simp[AV.has]);rw[hl]at this;obtain ⟨more,h2⟩:=this.nest;exact .np h2 hi
 | @hnNil r idx b off cap size n size2 subs a cap2 hl hs=>exact fun hh=>by have:=hh r (by simp[AV.has]);rw[hl]at this;obtain ⟨more,h2⟩:=this.nest;exact .hnNil a cap2 h2 (YXa hs)
 | @hn r idx b off cap size n size2 b2 off2 cap2 n2 subs hl hs=>exact fun hh=>by have:=hh r (by simp[AV.has]);rw[hl]at this;obtain ⟨more,h2⟩:=this.nest;exact .hn h2 (YXa hs)
 | @hnp r idx k j b off cap size n size2 b2 off2 cap2 n2 subs hl hs hk=>exact fun hh=>by have:=hh r (by simp[AV.has]);rw[hl]at this;obtain ⟨more,h2⟩:=this.nest;exact .hnp h2 (YXa hs) hk
 | nn h=>exact fun _=>.nn h
 | @ls o b hl=>exact fun hh=>.ls (by have:=hh o (by simp[AV.has]);rw[hl]at this;exact this.plain (by intros;simp))
 | @mr o b subs hl=>exact fun hh=>by have:=hh o (by simp[AV.has]);rw[hl]at this;obtain ⟨s,h2⟩:=this.mapr;exact .mr h2
theorem JWa{g g' :G}{r r2:Nat}(hx:Ext g.w g.u g'.w g'.u)(hl:∀k,k≠r->g'.loc k=g.loc k)(hr:Wya (g.loc r) (g'.loc r)){c:AV}{v:Value}(h:Rel g c v):Rel g' (c.clr r2) v:=by
 unfold AV.clr;cases hc:c.has r2 with
 | true=>exact .any _
 | false=>
  refine h.more hx fun o ho=>?_
  by_cases hor:o=r
  .subst hor;exact hr
  exact .inl (hl o hor)
variable {E:Env} {fr:Fr} {σ:Sto} {K:Post} {P:Program} {ρ:Operand->AV}
variable {dst:Option Tmp} {ty:TypeId} {pos:String} {af:Array Edge} {gu:Option (Nat × Bool)}
section
variable {α β:Type} {F:α->List PV} {G2:β->List PV} {l:List α} {l2:List β} {r r2 size size2 bytes sb ss k j m:Nat} {e e2 t:TypeId} {zero sz:Value} {d:TypeDesc} {x y:Operand}
variable {t' :TypeId} {size' bytes' :Nat} {zero' :Value} {d' :TypeDesc} {n:Int} {j0:Nat} {v v' :α} {c:PV}
theorem W6a{g:G}{vx:Value}(hob:RelO g r2 (.row e2 true size2 (l2.map G2)))(hx:Rel g (.hs r2 0) vx):
 ∃s,Kxa g.w g.u e2 size2 (l2.map G2) s vx/\∀t,s=some t->(AO.row e2 true size2 (l2.map G2)).own (g.loc r2) t.1:=by
 generalize hls:l2.map G2=ls at hob;cases hob with
 | nil hl=>
  cases hx with
  | hsNil a h1=>exact ⟨none,⟨rfl,a,0,rfl,fun _=>rfl⟩,fun t ht=>by cases ht⟩
  | hs h1=>rw[hl]at h1;cases h1
 | @row _ _ _ _ b off cap vs h1 h2 h3 h4 h5 h6 h7 h8 h9=>
  cases hx with
  | hsNil a hl=>rw[h1]at hl;cases hl
  | @hs _ _ _ _ _ _ ad hl ha=>
   rw[h1]at hl;cases hl;rcases Nat.eq_zero_or_pos ls.length with h0 | h0
   .refine ⟨none,⟨jBm h0,some ad,cap,by rw[h0],fun hx=>by cases hx⟩,fun t ht=>by cases ht⟩
   have:=ha (by omega);subst this;exact ⟨some (b,off,cap,ls.length),⟨rfl,rfl,h0,⟨vs,h2,h3,h9⟩,h4,h5,h6,h7,fun _=>h8 rfl⟩,fun t ht=>by cases ht;rw[h1];rfl⟩
theorem qnb(hx:fr.ev x=.np r n.toNat j0)(hr:σ.get r=some (.nrow e size j e2 size2 m (l.map F)))(hy:fr.ev y=.hs r2 0)(hr2:σ.get r2=some (.row e2 true size2 (l2.map G2)))(hne:Nat.beq r r2=false)(ht:TyOk E.P t' 1 bytes' zero' d')
 (hj:Nat.beq j0 j=true) (hv:idx l n=some v) (hm:n.toNat=m) (hjs:Nat.ble (j+1) (F v).length=true) (hF' :F v' =(F v).set j (.sl none (l2.map G2))):
 OpTo E ⟨none,.store t' x y,ty,pos,af,gu⟩ fr σ (fr.mp (AV.clr r2)) (((σ.dels [r2]).mp (AV.clr r2)).upd r (.nrow e size j e2 size2 (m+1) ((l.set n.toNat v').map F))):=
 ⟨fun g a K Q hst hK=>by
  obtain rfl:=jAn hj;have hjs:=jAe hjs;have hne:r≠r2:=by rintro rfl;simp at hne
  refine ⟨fun _ _=>trivial,?_⟩;rw[jAy _ _ _ (fun c=>by simp)];have h1:=hst.ev x;rw[hx]at h1;have h2:=hst.ev y;rw[hy]at h2;obtain ⟨hn0,hv⟩:=vCa hv;have hob:=hst.so.obj r _ hr;obtain ⟨b,off,cap,cur,subs,hN⟩:=QPa hob hv;have e1:=JUa hN h1;obtain ⟨s,hS,hSown⟩:=W6a (hst.so.obj r2 _ hr2) h2;have hlt:=(jAc.1 hv).1;have hFz:=hN.z v (jAd hv);have hcell:=vKb hS;have hcells:(a.eval y).cells= #[a.eval y]:=by cases hc:a.eval y <;> rw[hc]at hcell <;> first | rfl | cases hcell
  obtain ⟨w',new,hrun,hW⟩:=ypa (P:=E.P) (w:=g.w) (t:=e) (cur:=cur) (ty:=ty) (pos:=pos) (af:=af) (gu:=gu) (y:=y) e1 ht (by rw[hcells];rfl) (by rw[hcells];intro i hi;simp at hi;subst hi;exact hcell) hN.heap (by have:=hN.place hlt (by omega:j0 < size);omega);rw[hcells]at hW;rw[hrun,Oper.uponIn_skip];have hxx:=hW.ext (u:=g.u) hN.heap hN.u;have hFv' :(F v').length=size:=by rw[hF',jCj,hFz]
  have hFj:(F v')[j0]? =some (.sl none (l2.map G2)):=by rw[hF',jBo (by omega)]
  have hF1:∀q,q≠j0->(F v')[q]? =(F v)[q]? :=fun q hq=>by rw[hF',jBp (Ne.symm hq)]
  have hkeep:∀i' q,q < size->(i' ≠n.toNat∨q≠j0)->new.getD ((off+i') * size+q) undef=cur.getD ((off+i') * size+q) undef:=fun i' q hq h=>hW.out _ (YWa (len:=1) hq (by omega) (by omega))
  have hnew:new.getD ((off+n.toNat) * size+j0) undef=a.eval y:=by
   have:=hW.inn 0 (by simp);simpa using this
  let g' :G:=⟨w',g.u,fun k=>if k=r then .nest b off cap size l.length size2 (subs++ [s]) else g.loc k⟩;have hl' :g'.loc r=.nest b off cap size l.length size2 (subs++ [s]):=if_pos rfl;have hk' :∀k,k≠r->g'.loc k=g.loc k:=fun k hk=>if_neg hk
  have hbn:∀t,s=some t->t.1≠b:=by
   rintro t ht rfl;exact hne (hst.so.apart r r2 _ _ t.1 hr hr2 (by rw[hN.loc];exact .inl rfl) (hSown t ht))
  have hS' :Kxa w' g.u e2 size2 (l2.map G2) s (a.eval y):=hS.mono hxx.to0 fun t ht=>⟨hW.other t.1 (hbn t ht),rfl⟩
  have hN' :NAt g' r e size j0 e2 size2 (m+1) F (l.set n.toNat v') b off cap new (subs++ [s]):=by
   refine ⟨by rw[jCj];exact hl',hW.here,hW.sz.trans hN.sz,hN.max,by rw[jCj];exact hN.le,fun z hz' =>?_,hN.u,by rw[jAf,hN.sl];rfl,by rw[jCj];omega,?_,fun i' j' z c hi' hj' hc=>?_,fun i' s' z hs hz' =>?_⟩
   .rcases jBv hz' with h2 | rfl
    .exact hN.z z h2
    exact hFv'
   .rw[vPa];have hnd:=hN.nd;cases hs:s with
    | none=>simpa[zTa]using hnd
    | some t=>
     have htb:=hbn t hs;have hnin:t.1 ∉ zTa subs:=fun hin=>hne (hst.so.apart r r2 _ _ t.1 hr hr2 (by rw[hN.loc];exact .inr hin) (hSown t hs))
     rw[show zTa [some t]=[t.1] from rfl,<-List.cons_append];rw[List.nodup_append];refine ⟨hnd,by simp,fun q hq q' hq' =>?_⟩;simp only[jCc]at hq';subst hq';rintro rfl;rcases jCd.1 hq with h3 | h3
     .exact htb h3
     exact hnin h3
   .by_cases hin:i' =n.toNat
    .subst hin;rw[jBo hlt]at hi';cases hi';have hjj:j' ≠j0:=by omega
     have hjs' :j' < size:=by rw[<-hFv'];exact (jAc.1 hj').1
     rw[hkeep _ j' hjs' (.inr hjj)];rw[hF1 j' hjj]at hj';exact (hN.cell _ j' v c hv hj' (.inr hjj)).mono hxx
    rw[jBp (by omega)]at hi';have hjs' :j' < size:=by rw[<-hN.z z (jAd hi')];exact (jAc.1 hj').1
    rw[hkeep i' j' hjs' (.inl hin)];exact (hN.cell i' j' z c hi' hj' (by omega)).mono hxx
   by_cases hin:i' =n.toNat
   .subst hin;rw[jBo hlt]at hz';cases hz';rw[jAk (by rw[hN.sl];omega),hN.sl,hm,Nat.sub_self]at hs;simp only[jDp,Option.some.injEq]at hs;subst hs;exact ⟨_,hFj,by rw[hnew];exact hS'⟩
   rw[jBp (by omega)]at hz';have hil:i' < subs.length:=by
    have:=(jAc.1 hs).1;simp only[jAf,jDh]at this;have:=hN.sl;omega
   rw[jAl hil]at hs;obtain ⟨rows,q1,q2⟩:=hN.sub i' s' z hs hz';refine ⟨rows,q1,?_⟩;rw[hkeep i' j0 (by omega) (.inl hin)];refine q2.mono hxx.to0 fun t ht=>⟨hW.other t.1 ?_,rfl⟩
   rintro rfl;subst ht;exact (jBn.1 hN.nd).1 (yfa hs)
  have hle:Wya (g.loc r) (g'.loc r):=.inr <| .inl ⟨b,off,cap,size,l.length,size2,subs,[s],hN.loc,hl'⟩;refine hK g' _ (St.put_none (hst.turn (g' :=g') hr [r2] (by simpa using hne) (AV.clr r2) rfl (fun c v h=>JWa hxx hk' hle h) hxx hk' hW.os hW.tape hW.output (fun q hq hno=>⟨hW.other q ?_,rfl⟩) (yWa hst.so.wf (jBw hW.size.symm) _) hN'.obj (fun q hq=>.inl ?_)))
  .rintro rfl;exact hno r _ (.inl rfl) hr (by rw[hN.loc];exact .inl rfl)
  rw[hl']at hq;rcases hq with hq | hq
  .exact ⟨r,_,.inl rfl,hr,by rw[hN.loc];exact .inl hq⟩
  have hq:q∈zTa (subs++ [s]):=hq;rw[vPa]at hq;rcases jCg.1 hq with hq | hq
  .exact ⟨r,_,.inl rfl,hr,by rw[hN.loc];exact .inr hq⟩
  cases hs:s with
  | none=>rw[hs]at hq;cases hq
  | some t=>
   rw[hs,show zTa [some t]=[t.1] from rfl,jCc]at hq;subst hq;exact ⟨r2,_,.inr (by simp),hr2,hSown t hs⟩⟩
end
end
section
open Go.RowKit Go.Lib Go.Proofs.Tryz
def nall(m n:Nat):Option Bool:=if m=n then some true else none
theorem vLb{m n:Nat}{r:Bool}(h:nall m n=some r):m=n:=by
 unfold nall at h;split at h
 .assumption
 cases h
variable {E:Env} {fr:Fr} {σ:Sto} {K:Post} {P:Program} {ρ:Operand->AV}
variable {dst:Option Tmp} {ty:TypeId} {pos:String} {af:Array Edge} {gu:Option (Nat × Bool)}
section
variable {α β:Type} {F:α->List PV} {G2:β->List PV} {l r' :List α} {l2:List β} {r r2 o size size2 bytes sb ss k j m lim:Nat} {e e2 t:TypeId} {zero sz:Value} {d:TypeDesc} {x y:Operand} {v:α} {cs:List AV}
theorem vMb(o:Nat)(hN:Nat.ble (k+1) E.N=true)(hfo:fr.has o=false)(hso:σ.has o=false)(ht:TyOk E.P t ss sb sz (.slice e))(he:TyOk E.P e size bytes zero d)(hzs:(Nat.beq zero.cells.size size && Nat.ble 1 size && zero.cells.toList.all cellV && Nat.ble size 16777216)=true)
 (hc:YAa (fun i=>some (i * size,size)) (List.replicate size .any) [(0,(fr.ev y).weak)]=some cs) (hcs:AV.hasL o cs=false):
 OpTo E ⟨some k,.buildSlice t 1 #[(0,y)],ty,pos,af,gu⟩ fr σ ((k,.ls o)::fr) ((o,.cells cs)::σ):=
 ⟨fun g a K Q hst hK=>by
  simp only[jAr]at hzs;have hz1:=jAn hzs.1.1.1;have hz2:=jAe hzs.1.1.2;have hz4:=jAe hzs.2;refine ⟨fun _ _=>trivial,?_⟩;rw[jAy _ _ _ (fun c=>by simp)];generalize harr:((Array.range (1 * size)).map (fun i=>zero.cells[i % zero.cells.size]!))=arr;have hasz:arr.size=size:=by rw[<-harr];simp
  have hacell:∀i,i < arr.size->cellV (arr.getD i undef)=true:=by
   intro i hi;rw[hasz]at hi;have hlt:i % zero.cells.size < zero.cells.size:=Nat.mod_lt _ (by omega);have:arr.getD i undef=zero.cells[i % zero.cells.size]:=by
    rw[<-harr];simp[hi,hlt]
   rw[this];have h3:=hzs.1.2;rw[jAw]at h3;exact h3 _ (by simp)
  obtain ⟨out,h1,h2⟩:=YBa (g:=g) [(0,(fr.ev y).weak)] [(0,a.eval y)] (List.replicate size .any) arr cs
   ⟨by simp[hasz],hacell,fun i c hi=>by
    have:=jAd hi;rw[jDe]at this;rw[this.2];exact .any _⟩ (by simp) (fun i p v hp hv=>by
   cases i with
   | zero=>simp at hp hv;subst hp;subst hv;exact ⟨rfl,vha (hst.ev y)⟩
   | succ i=>simp at hp) hc
  have hrun:(execOp a.eval ⟨some k,.buildSlice t 1 #[(0,y)],ty,pos,af,gu⟩).run E.P g.w=.ok (.value (.slice (some ⟨g.w.heap.size,0,none⟩) 1 1)) (g.w.alloc (.cells out e)):=by
   show Sem.run E.P (do let v <-Instr.buildSlice t 1 ((#[(0,y)]:Array (Nat × Operand)).map fun (i,x)=>(i,a.eval x));pure (Next.value v)) g.w=_;have e1:((#[(0,y)]:Array (Nat × Operand)).map fun (x:Nat × Operand)=>(x.1,a.eval x.2)).toList=[(0,a.eval y)]:=by simp
   have hgt:¬(1 * size > 2 ^ 24):=by simp;omega
   have h0:¬(1 * size=0):=by omega
   simp only[Instr.buildSlice,underlying,program,jAu,Sem.run,ht.u,he.sizeOf,jAs,jBd,if_neg hgt,if_neg h0,he.zeroValue,e1,harr,h1];rfl
  rw[hrun,jBb];have hst' :=hst.box o hfo hso e h2.n h2.c h2.r hcs;exact hK _ _ (hst'.put (jAe hN) (.ls (if_pos rfl)))⟩
theorem VSa{g:G}{a:Act}{subs:List (Option (Nat × Nat × Nat × Nat))}{s:Option (Nat × Nat × Nat × Nat)}{w' :World}{b' off' cap' :Nat}{nw:Array Value}(hst:St E g a fr σ)(hr:σ.get r=some (.nrow e size j e2 size2 l.length (l.map F)))(hr2:σ.get r2=some (.row e2 true size2 (l2.map G2)))(ho:σ.get o=some (.cells cs))(hne2:r≠r2)(hneo:r≠o)
 (hsub0:(g.loc r=.nilRow/\l=[]/\subs=[])∨∃b off cap n,g.loc r=.nest b off cap size n size2 subs)
 (hsl:subs.length=l.length) (hz:∀x∈l,(F x).length=size) (hFz:(F v).length=size) (hFj:(F v)[j]? =some (.sl none (l2.map G2)))
 (hos:w'.os=g.w.os) (htape:w'.tape=g.w.tape) (hout:w'.output=g.w.output) (hx:Ext g.w g.u w' g.u)
 (hheap:w'.heap[b']? =some (.cells nw e (0,0))) (hother:∀q,q < g.w.heap.size->q≠b' ->w'.heap[q]? =g.w.heap[q]?) (hb' :(AO.nrow e size j e2 size2 l.length (l.map F)).own (g.loc r) b' /\b' ∉ zTa subs∨g.w.heap.size<=b') (hu:g.u b' =0)
 (hnsz:nw.size=(off' +cap') * size) (hcap:cap' <=maxLen) (hle:l.length+1<=cap') (hwfs:g.w.heap.size<=w'.heap.size)
 (hold:∀i j' x c,l[i]? =some x->(F x)[j']? =some c->(l.length<=i∨j' ≠j)->RelP g.w g.u c (nw.getD ((off' +i) * size+j') undef))
 (holds:∀i s x,subs[i]? =some s->l[i]? =some x->∃rows,(F x)[j]? =some (.sl none rows)/\Kxa g.w g.u e2 size2 rows s (nw.getD ((off' +i) * size+j) undef))
 (hnew:∀j' c,(F v)[j']? =some c->j' ≠j->RelP g.w g.u c (nw.getD ((off' +l.length) * size+j') undef))
 (hnews:Kxa g.w g.u e2 size2 (l2.map G2) s (nw.getD ((off' +l.length) * size+j) undef)) (hsown:∀t,s=some t->(AO.row e2 true size2 (l2.map G2)).own (g.loc r2) t.1) (hnd:(zTa subs).Nodup):
 St E ⟨w',g.u,fun q=>if q=r then .nest b' off' cap' size (l++ [v]).length size2 (subs++ [s]) else g.loc q⟩ a (fr.mp (AV.clrs [r,r2,o])) (((σ.dels [r2,o]).mp (AV.clrs [r,r2,o])).upd r (.nrow e size j e2 size2 (l.length+1) ((l++ [v]).map F))):=by
 let g' :G:=⟨w',g.u,fun q=>if q=r then .nest b' off' cap' size (l++ [v]).length size2 (subs++ [s]) else g.loc q⟩;have hl' :g'.loc r=.nest b' off' cap' size (l++ [v]).length size2 (subs++ [s]):=if_pos rfl;have hk' :∀q,q≠r->g'.loc q=g.loc q:=fun q hq=>if_neg hq
 have hsubown:∀q,q∈zTa subs->(AO.nrow e size j e2 size2 l.length (l.map F)).own (g.loc r) q:=by
  intro q hq;rcases hsub0 with ⟨_,_,rfl⟩ | ⟨b,off,cap,n,h⟩
  .cases hq
  rw[h];exact .inr hq
 have hlt:∀q,(AO.nrow e size j e2 size2 l.length (l.map F)).own (g.loc r) q->q < g.w.heap.size:=fun q hq=>(hst.so.obj r _ hr).block_lt hq
 have hlt2:∀q,(AO.row e2 true size2 (l2.map G2)).own (g.loc r2) q->q < g.w.heap.size:=fun q hq=>(hst.so.obj r2 _ hr2).block_lt hq
 have hdis:∀q,(AO.nrow e size j e2 size2 l.length (l.map F)).own (g.loc r) q->¬(AO.row e2 true size2 (l2.map G2)).own (g.loc r2) q:=fun q h1 h2=>hne2 (hst.so.apart r r2 _ _ q hr hr2 h1 h2)
 have hb'sub:b' ∉ zTa subs:=by
  rcases hb' with h | h
  .exact h.2
  intro hin;have:=hlt _ (hsubown _ hin);omega
 have hb's:∀t,s=some t->t.1≠b' :=by
  rintro t ht rfl;rcases hb' with h | h
  .exact hdis _ h.1 (hsown t ht)
  have:=hlt2 _ (hsown t ht);omega
 have hN' :NAt g' r e size j e2 size2 (l.length+1) F (l++ [v]) b' off' cap' nw (subs++ [s]):=by
  refine ⟨hl',hheap,hnsz,hcap,by simpa using hle,fun z hz' =>?_,hu,by simp[hsl],by simp,?_,fun i' j' z c hi' hj' hc=>?_,fun i' s' z hs hz' =>?_⟩
  .rcases jCg.1 hz' with h | h
   .exact hz z h
   simp only[jCc]at h;rw[h];exact hFz
  .rw[vPa];cases hs:s with
   | none=>rw[show zTa [none]=[] from rfl,jCn];exact jBn.2 ⟨hb'sub,hnd⟩
   | some t=>
    rw[show zTa [some t]=[t.1] from rfl,jBn,List.nodup_append];refine ⟨fun hin=>?_,hnd,by simp,fun q hq q' hq' =>?_⟩
    .rcases jCg.1 hin with h | h
     .exact hb'sub h
     simp only[jCc]at h;exact hb's t hs h.symm
    simp only[jCc]at hq';subst hq';rintro rfl;exact hdis _ (hsubown _ hq) (hsown t hs)
  .rcases jBg i' l.length with h | h
   .rw[jAl h]at hi';exact (hold i' j' z c hi' hj' (by omega)).mono hx
   rw[jAk h]at hi';have:i' =l.length:=by have:=(jAc.1 hi').1;simp at this;omega
   subst this;rw[Nat.sub_self]at hi';cases hi';exact (hnew j' c hj' (by omega)).mono hx
  have hsame:∀t,s' =some t->t.1 < g.w.heap.size->t.1≠b' ->w'.heap[t.1]? =g.w.heap[t.1]? /\g.u t.1=g.u t.1:=fun t _ h1 h2=>⟨hother t.1 h1 h2,rfl⟩
  rcases jBg i' l.length with h | h
  .rw[jAl h]at hz';rw[jAl (by omega)]at hs;obtain ⟨rows,q1,q2⟩:=holds i' s' z hs hz';refine ⟨rows,q1,q2.mono hx.to0 fun t ht=>hsame t ht ?_ ?_⟩
   .subst ht;exact hlt _ (hsubown _ (yfa hs))
   subst ht;rintro rfl;exact hb'sub (yfa hs)
  rw[jAk h]at hz';have:i' =l.length:=by have:=(jAc.1 hz').1;simp at this;omega
  subst this;rw[Nat.sub_self]at hz';cases hz';rw[jAk (by omega),hsl,Nat.sub_self]at hs;cases hs;exact ⟨_,hFj,hnews.mono hx.to0 fun t ht=>hsame t ht (hlt2 _ (hsown t ht)) (hb's t ht)⟩
 refine hst.turn (g' :=g') hr [r2,o] (by simp[hne2,hneo]) (AV.clrs [r,r2,o]) rfl (fun c vx h=>Vka hx (fun q hq=>hk' q (by rintro rfl;simp at hq)) h) hx hk' hos htape hout (fun q hq hno=>⟨hother q hq ?_,rfl⟩) (yWa hst.so.wf hwfs _) hN'.obj (fun q hq=>?_)
 .rintro rfl;rcases hb' with h | h
  .exact hno r _ (.inl rfl) hr h.1
  omega
 rw[hl']at hq;rcases hq with hq | hq
 .cases hq;rcases hb' with h | h
  .exact .inl ⟨r,_,.inl rfl,hr,h.1⟩
  exact .inr h
 have hq:q∈zTa (subs++ [s]):=hq;rw[vPa]at hq;rcases jCg.1 hq with hq | hq
 .exact .inl ⟨r,_,.inl rfl,hr,hsubown q hq⟩
 cases hs:s with
 | none=>rw[hs]at hq;cases hq
 | some t=>
  rw[hs,show zTa [some t]=[t.1] from rfl,jCc]at hq;subst hq;exact .inl ⟨r2,_,.inr (by simp),hr2,hsown t hs⟩
theorem JXa(hN:Nat.ble (k+1) E.N=true)(hx:fr.ev x=.ns r)(hr:σ.get r=some (.nrow e size j e2 size2 m (l.map F)))(hy:fr.ev y=.ls o)(ho:σ.get o=some (.cells cs))(hcs:cs=((F v).map AV.pv).set j (.hs r2 0))(hr2:σ.get r2=some (.row e2 true size2 (l2.map G2)))(hne:(Nat.beq r r2 || Nat.beq r o)=false)
 (hFj:(F v)[j]? =some (.sl none (l2.map G2))) (hm:m=l.length) (ht:TyOk E.P t ss sb sz (.slice e)) (he:TyOk E.P e size bytes zero d)
 (hzz:Nat.beq zero.cells.size size=true) (hs:Nat.ble 1 size=true) (hF:∀x,(F x).length=size) (hlim:(Nat.ble (lim * bytes) 140737488355328 && Nat.ble lim 9223372036854775807)=true) (h:app lim l [v]=some r'):
 OpTo E ⟨some k,.call ⟨.builtin .append, #[x,y], #[t,t]⟩,ty,pos,af,gu⟩ fr σ ((k,.ns r)::fr.mp (AV.clrs [r,r2,o])) (((σ.dels [r2,o]).mp (AV.clrs [r,r2,o])).upd r (.nrow e size j e2 size2 (m+1) (r'.map F))):=
 ⟨fun g a K Q hst hK=>by
  obtain ⟨hle,rfl⟩:=Vha h;subst hm;simp only[jAr]at hlim;simp only[Bool.or_eq_false_iff]at hne;have hne2:r≠r2:=by rintro rfl;simp at hne
  have hneo:r≠o:=by rintro rfl;simp at hne
  have hl1:=jAe hlim.1;have hl2:=jAe hlim.2;have hzz:=jAn hzz;have hs:=jAe hs;simp only[jDh]at hle;refine ⟨fun _ _=>trivial,?_⟩;rw[jAy _ _ _ (fun c=>by simp)];have h1:=hst.ev x;rw[hx]at h1;have h2:=hst.ev y;rw[hy]at h2;have hoo:=hst.so.obj o _ ho;have hlb:(l.length+1) * bytes<=140737488355328:=jCi (jAo _ hle) hl1;generalize ev2:a.eval y=v2 at h2;cases hoo with
  | @cells _ b0 t0 vs0 q1 q2 q3 q4 q5 q6=>
  cases h2 with
  | ls p1=>
  rw[q1]at p1;cases p1;have hsz0:vs0.size=size:=by rw[q3,hcs];simp[hF]
  have hjs:j < size:=by rw[<-hF v];exact (jAc.1 hFj).1
  have hnl:vs0.toList.length=1 * size:=by simp[hsz0]
  have hcells:∀q u,vs0.toList[q]? =some u->g.w.cell? (Addr.add ⟨b0,0,none⟩ q)=some u:=by
   intro q u hq;have hlt:q < vs0.size:=by simpa using (jAc.1 hq).1
   rw[qpa,jBz,kHa q2 hlt];rw[jAg,<-jBu,hq];rfl
  have hone:=QQa q5;have hval:∀j' c,(F v)[j']? =some c->j' ≠j->RelP g.w g.u c (vs0.getD j' undef):=by
   intro j' c hc hne;have:=q6 j' (.pv c) (by rw[hcs,jBp (Ne.symm hne)];simp[hc]);cases this with
   | pv h=>exact h
  have hsv:Rel g (.hs r2 0) (vs0.getD j undef):=q6 j _ (by rw[hcs,jBo (by simp[hF];exact hjs)]);obtain ⟨s,hS,hSown⟩:=W6a (hst.so.obj r2 _ hr2) hsv;obtain ⟨old,ev1,hold,hsubs⟩:∃old:Option Addr × Option (Nat × Nat × Nat × Array Value),a.eval x=oldV l.length old/\kYb g.w e size l.length old/\
   ((old.2=none/\g.loc r=.nilRow/\l=[])∨∃b off cap cur subs,old.2=some (b,off,cap,cur)/\NAt g r e size j e2 size2 l.length F l b off cap cur subs):=by
   rcases vJb (hst.so.obj r _ hr) with ⟨hl,rfl,_⟩ | ⟨b,off,cap,cur,subs,hNA⟩
   .generalize a.eval x=vx at h1;cases h1 with
    | nsNil ad h1=>exact ⟨(ad,none),rfl,rfl,.inl ⟨rfl,hl,rfl⟩⟩
    | ns h1=>rw[hl]at h1;cases h1
   generalize a.eval x=vx at h1;cases h1 with
   | nsNil ad h1=>rw[hNA.loc]at h1;cases h1
   | @ns _ _ _ _ _ _ _ _ ad h1 ha=>
    rw[hNA.loc]at h1;cases h1;exact ⟨(some ad,some (b,off,cap,cur)),rfl,⟨hNA.heap,hNA.sz,hNA.le,hNA.max,ad,rfl,ha⟩,.inr ⟨b,off,cap,cur,subs,rfl,hNA⟩⟩
  obtain ⟨v',w',hrun,hres⟩:=jwa (ty:=ty) (c:=1) (m:=1) ht he hzz (by omega) hold hnl hcells hone hlb (by unfold maxLen;omega);rw[k2a (x:=x) (y:=y) (w:=g.w) (by rw[ev1,ev2];exact hrun),jBb];have hnewget:∀q,q < size->∀(nw:Array Value) (p:Nat),(∀q,q < vs0.toList.length->nw.getD (p+q) undef=vs0.toList.getD q undef)->nw.getD (p+q) undef=vs0.getD q undef:=by
   intro q hq nw p hh;rw[hh q (by rw[hnl];omega),jAm,jBu,jAg]
  cases hres with
  | same hm _ _=>omega
  | @room a0 b off cap cur ho2 hle2 _=>
   subst ho2;rcases hsubs with ⟨h3,_⟩ | ⟨b',off',cap',cur',subs,h3,hNA⟩
   .cases h3
   cases h3;have hfit:(off+l.length) * size+vs0.toList.length<=cur.size:=by rw[hnl,hNA.sz,<-jAv];exact jAo _ (by omega)
   have hW:=JVa (w:=g.w) (p:=(off+l.length) * size) (cl:=vs0.toList) hNA.heap hfit;have hxx:=hW.ext (u:=g.u) hNA.heap hNA.u;have hkeep:∀i q,i < l.length->q < size->(cur.toList.take ((off+l.length) * size)++vs0.toList++cur.toList.drop ((off+l.length) * size+vs0.toList.length)).toArray.getD ((off+i) * size+q) undef=cur.getD ((off+i) * size+q) undef:=fun i q hi hq=>hW.out _ (.inl (by
    have:(off+i+1) * size<=(off+l.length) * size:=jAo _ (by omega);rw[jAv (off+i)]at this;omega))
   have hst' :=VSa (v:=v) (o:=o) (cs:=cs) (w' :=g.w.setRow b _) (b' :=b) (off' :=off) (cap' :=cap) (s:=s) (subs:=subs) hst hr hr2 ho hne2 hneo (.inr ⟨_,_,_,_,hNA.loc⟩) hNA.sl hNA.z (hF v) hFj hW.os hW.tape hW.output hxx hW.here (fun q _ hq=>hW.other q hq) (.inl ⟨by rw[hNA.loc];exact .inl rfl,(jBn.1 hNA.nd).1⟩) hNA.u (hW.sz.trans hNA.sz) hNA.max hle2 (jBw hW.size.symm)
    (fun i j' x c hi hj hc=>by rw[hkeep i j' (jAc.1 hi).1 (by rw[<-hF x];exact (jAc.1 hj).1)];exact hNA.cell i j' x c hi hj hc)
    (fun i s x hi hx=>by rw[hkeep i j (jAc.1 hx).1 hjs];exact hNA.sub i s x hi hx)
    (fun j' c hc hne=>by rw[hnewget j' (by rw[<-hF v];exact (jAc.1 hc).1) _ _ hW.inn];exact hval j' c hc hne)
    (by rw[hnewget j hjs _ _ hW.inn];exact hS) hSown (jBn.1 hNA.nd).2
   refine hK _ _ (hst'.put (jAe hN) ?_);have:=Rel.ns (g:=⟨g.w.setRow b (cur.toList.take ((off+l.length) * size)++vs0.toList++cur.toList.drop ((off+l.length) * size+vs0.toList.length)).toArray,g.u,fun q=>if q=r then .nest b off cap size (l++ [v]).length size2 (subs++ [s]) else g.loc q⟩) (r:=r) (a:=⟨b,off * size,none⟩) (if_pos rfl) (fun _=>rfl);simpa using this
  | @fresh cap cells hc hle2 hmx htk=>
   have hb0:(g.w.drew.alloc (.cells cells e)).heap[g.w.heap.size]? =some (.cells cells e (0,0)):=heap_alloc_new g.w.drew _;have hxx:Ext g.w g.u (g.w.drew.alloc (.cells cells e)) g.u:=⟨by simp,fun _ _=>jBc _,fun q i hq _=>by
    simp only[World.cell?];rw[show (g.w.drew.alloc (.cells cells e)).heap[q]? =g.w.heap[q]? from Below.heap_alloc g.w.drew _ _ hq],fun r' hr' =>(Below.heap_alloc g.w.drew _ _ (kNa hr')).trans hr'⟩
   have hplen:(yla size (l.length * size) old).length=l.length * size:=by
    obtain ⟨a0,old⟩:=old;rcases hsubs with ⟨h3,_,rfl⟩ | ⟨b,off,cap0,cur,subs,h3,hNA⟩
    .dsimp only at h3;subst h3;simp[yla]
    dsimp only at h3;subst h3;simp only[yla,jBl,jCh,jBi,hNA.sz];rw[jAv,jCq];exact Nat.min_eq_left (jAo _ hNA.le)
   have hgetc:∀q,q < (l.length+1) * size->cells.getD q undef=(yla size (l.length * size) old++vs0.toList).getD q undef:=by
    intro q hq;rw[jAg,<-jBu,jAm,<-htk,jAt hq]
   have hgnew:∀q,q < size->cells.getD ((0+l.length) * size+q) undef=vs0.getD q undef:=by
    intro q hq;rw[jBz,hgetc _ (by rw[jAv];omega),jAm,jAk (by omega),hplen,jCq,jBu,jAg]
   obtain ⟨subs,hs0,hsl,hz,hol,hsu,hnd⟩:∃subs,((g.loc r=.nilRow/\l=[]/\subs=[])∨∃b off cap n,g.loc r=.nest b off cap size n size2 subs)/\subs.length=l.length/\(∀x∈l,(F x).length=size)/\
    (∀i j' x c,l[i]? =some x->(F x)[j']? =some c->(l.length<=i∨j' ≠j)->RelP g.w g.u c (cells.getD ((0+i) * size+j') undef))/\(∀i s x,subs[i]? =some s->l[i]? =some x->∃rows,(F x)[j]? =some (.sl none rows)/\Kxa g.w g.u e2 size2 rows s (cells.getD ((0+i) * size+j) undef))/\(zTa subs).Nodup:=by
    obtain ⟨a0,old⟩:=old;rcases hsubs with ⟨h3,h4,rfl⟩ | ⟨b,off,cap0,cur,subs,h3,hNA⟩
    .exact ⟨[],.inl ⟨h4,rfl,rfl⟩,rfl,fun x hx=>(by cases hx),fun i j' x c hi=>(by simp at hi),fun i s x hi=>(by simp at hi),List.nodup_nil⟩
    dsimp only at h3;subst h3;have hkeep:∀i q,i < l.length->q < size->cells.getD ((0+i) * size+q) undef=cur.getD ((off+i) * size+q) undef:=by
     intro i q hi hq;have h5:i * size+q < l.length * size:=by
      have:(i+1) * size<=l.length * size:=jAo _ hi;rw[jAv]at this;omega
     rw[jBz,hgetc _ (by rw[jAv];omega),jAm,jAl (by omega)];simp only[yla];rw[jAt h5,jBf,jBu,jAg]
     congr 2
     rw[jAv];omega
    exact ⟨subs,.inr ⟨_,_,_,_,hNA.loc⟩,hNA.sl,hNA.z,fun i j' x c hi hj hc=>by rw[hkeep i j' (jAc.1 hi).1 (by rw[<-hF x];exact (jAc.1 hj).1)];exact hNA.cell i j' x c hi hj hc,
     fun i s x hi hx=>by rw[hkeep i j (jAc.1 hx).1 hjs];exact hNA.sub i s x hi hx,(jBn.1 hNA.nd).2⟩
   have hst' :=VSa (v:=v) (o:=o) (cs:=cs) (w' :=g.w.drew.alloc (.cells cells e)) (b' :=g.w.heap.size) (off' :=0) (cap' :=cap) (s:=s) (subs:=subs) hst hr hr2 ho hne2 hneo hs0 hsl hz (hF v) hFj rfl rfl rfl hxx hb0 (fun q hq _=>Below.heap_alloc g.w.drew _ _ hq) (.inr (jBc _)) (hst.so.wf _ (jBc _)) (by rw[jBz];exact hc) hmx hle2 hxx.size hol hsu
    (fun j' c hc hne=>by rw[hgnew j' (by rw[<-hF v];exact (jAc.1 hc).1)];exact hval j' c hc hne) (by rw[hgnew j hjs];exact hS) hSown hnd
   refine hK _ _ (hst'.put (jAe hN) ?_);have:=Rel.ns (g:=⟨g.w.drew.alloc (.cells cells e),g.u,fun q=>if q=r then .nest g.w.heap.size 0 cap size (l++ [v]).length size2 (subs++ [s]) else g.loc q⟩) (r:=r) (a:=⟨g.w.heap.size,0,none⟩) (if_pos rfl) (fun _=>by simp);simpa using this⟩
end
end
section
open Go.RowKit Go.Lib Go.Proofs.Tryz
variable {E:Env} {fr:Fr} {σ:Sto} {K:Post}
theorem St.split{g g' :G}{a:Act}(h:St E g a fr σ){r r1:Nat}{ob0 ob ob1:AO}(hr:σ.get r=some ob0)(hf1:fr.has r1=false)(hs1:σ.has r1=false)(hg1:σ.get r1=none)(hw:g'.w=g.w)(hu:g'.u=g.u)(hl:∀k,k≠r->k≠r1->g'.loc k=g.loc k)(hle:Wya (g.loc r) (g'.loc r))
 (hok:ob0.has r1=false) (hob:RelO g' r ob) (hob1:RelO g' r1 ob1) (hsub:∀b,ob.own (g'.loc r) b->ob0.own (g.loc r) b) (hsub1:∀b,ob1.own (g'.loc r1) b->ob0.own (g.loc r) b) (hdis:∀b,ob.own (g'.loc r) b->¬ob1.own (g'.loc r1) b)
 (hhas:∀o ob2,o≠r->σ.get o=some ob2->ob2.has r=true->∃cs,ob2=.cells cs∨∃c v,ob2=.hold c v):St E g' a fr ((r1,ob1)::σ.upd r ob):=by
 have hne:r≠r1:=by rintro rfl;rw[hr]at hg1;cases hg1
 have hx:Ext g.w g.u g'.w g'.u:=by rw[hw,hu];exact Ext.refl _ _
 have hrel:∀c v,c.has r1=false->Rel g c v->Rel g' c v:=fun c v hc hv=>hv.more hx fun o ho=>by
  by_cases h1:o=r
  .subst h1;exact hle
  by_cases h2:o=r1
  .subst h2;rw[hc]at ho;cases ho
  exact .inl (hl o h1 h2)
 have hgu:=Sto.get_upd (ob:=ob) hr;have hget:∀o ob',Sto.get ((r1,ob1)::σ.upd r ob) o=some ob' ->(o=r1/\ob' =ob1)∨(o=r/\ob' =ob)∨(o≠r/\o≠r1/\σ.get o=some ob'):=by
  intro o ob' ho;rw[Sto.get_cons]at ho;split at ho
  .rename_i h1;cases ho;exact .inl ⟨h1.symm,rfl⟩
  rename_i h1;rw[hgu]at ho;split at ho
  .rename_i h2;cases ho;exact .inr (.inl ⟨h2,rfl⟩)
  rename_i h2;exact .inr (.inr ⟨h2,Ne.symm h1,ho⟩)
 refine ⟨fun d=>hrel _ _ ?_ (h.fr d),h.n,by rw[hw];exact h.df,⟨?_,?_,?_,?_,fun k hk=>by rw[hu];exact h.so.wf k (by rw[<-hw];exact hk)⟩⟩
 .cases hh:(fr.get d).has r1 with
  | false=>rfl
  | true=>rw[Fr.has_get hh]at hf1;cases hf1
 .intro o ob' ho;rcases hget o ob' ho with ⟨rfl,rfl⟩ | ⟨rfl,rfl⟩ | ⟨h1,h2,ho⟩
  .exact hob1
  .exact hob
  have hro:=h.so.obj o ob' ho;have hn:ob'.has r1=false:=by
   cases hh:ob'.has r1 with
   | false=>rfl
   | true=>rw[Sto.has_get ho hh]at hs1;cases hs1
  cases ob' with
  | cells cs=>
   cases hro with
   | @cells _ b t vs q1 q2 q3 q4 q5 q6=>
    refine .cells ((hl o h1 h2).trans q1) (by rw[hw];exact q2) q3 (by rw[hu];exact q4) q5 fun i c hi=>hrel c _ ?_ (q6 i c hi)
    cases hh:c.has r1 with
    | false=>rfl
    | true=>rw[show (AO.cells cs).has r1=AV.hasL r1 cs from rfl,AV.hasL_of hi hh]at hn;cases hn
  | hold c v=>cases hro with
   | hold q1=>exact .hold (hrel c _ hn q1)
  | _=>exact hro.mono hx (hl o h1 h2) (fun _ hk=>by cases hk) fun b _=>by rw[hw,hu];exact ⟨rfl,rfl⟩
 .intro o o' oa ob' b h1 h2 h3 h4;rcases hget o oa h1 with ⟨rfl,rfl⟩ | ⟨rfl,rfl⟩ | ⟨p1,p2,p3⟩ <;> rcases hget o' ob' h2 with ⟨rfl,rfl⟩ | ⟨rfl,rfl⟩ | ⟨q1,q2,q3⟩
  .rfl
  .exact absurd h3 (hdis b h4)
  .rw[hl o' q1 q2]at h4;exact absurd (h.so.apart r o' _ _ b hr q3 (hsub1 b h3) h4) (Ne.symm q1)
  .exact absurd h4 (hdis b h3)
  .rfl
  .rw[hl o' q1 q2]at h4;exact absurd (h.so.apart o o' _ _ b hr q3 (hsub b h3) h4) (Ne.symm q1)
  .rw[hl o p1 p2]at h3;exact absurd (h.so.apart o r _ _ b p3 hr h3 (hsub1 b h4)) p1
  .rw[hl o p1 p2]at h3;exact absurd (h.so.apart o o' _ _ b p3 hr h3 (hsub b h4)) p1
  rw[hl o p1 p2]at h3;rw[hl o' q1 q2]at h4;exact h.so.apart o o' _ _ b p3 q3 h3 h4
 .intro o oa b h1 h2;rcases hget o oa h1 with ⟨rfl,rfl⟩ | ⟨rfl,rfl⟩ | ⟨p1,p2,p3⟩
  .exact h.so.mine r _ b hr (hsub1 b h2)
  .exact h.so.mine o _ b hr (hsub b h2)
  rw[hl o p1 p2]at h2;exact h.so.mine o _ b p3 h2
 exact ⟨by rw[hw];exact h.so.old.os,by rw[hw];exact h.so.old.tape,by rw[hw];exact h.so.old.output,h.so.old.ext.trans hx,fun b hb hs=>by rw[hw,hu];exact h.so.old.block b hb hs⟩
section
variable {κ β:Type} [BEq κ] [LawfulBEq κ] {KK:KeyK κ} {G2:β->List PV} {P:Program} {ρ:Operand->AV} {t kt e e1:TypeId} {m x y:Operand} {o r size sz1 bytes k0:Nat} {d:TypeDesc} {es:List (κ × List β)} {k:κ} {l:List β}
variable {dst:Option Tmp} {ty:TypeId} {pos:String} {af:Array Edge} {gu:Option (Nat × Bool)}
abbrev mencR(KK:KeyK κ)(G2:β->List PV)(es:List (κ × List β)):List (Value × List (List PV)):=es.map fun p=>(KK.kf p.1,p.2.map G2)
structure MAt (g:G) (o:Nat) (e:TypeId) (size:Nat) (tk:Option Nat) (KK:KeyK κ) (G2:β->List PV) (es:List (κ × List β)) (b clock:Nat) (ents:Array MapEntry) (subs:List (Option (Nat × Nat × Nat × Nat))):Prop where
 loc:g.loc o=.mapr b subs
 heap:g.w.heap[b]? =some (.map ents clock)
 u:g.u b=0
 n:ents.size=es.length
 sl:subs.length=es.length
 nd:(b::zTa subs).Nodup
 key:∀(i:Nat) p x,es[i]? =some p->ents[i]? =some x->x.key=KK.kf p.1
 cv:∀(i:Nat) x,ents[i]? =some x->cellV x.val=true
 ent:∀(i:Nat) p x,es[i]? =some p->ents[i]? =some x->(tk=some i/\subs[i]? =some none∨tk≠some i/\∃s,subs[i]? =some (some s)/\jua g.w g.u e false size (p.2.map G2) s x.val)
theorem MAt.obj{g:G}{tk:Option Nat}{b clock:Nat}{ents:Array MapEntry}{subs:List (Option (Nat × Nat × Nat × Nat))}(h:MAt g o e1 size tk KK G2 es b clock ents subs):RelO g o (.mapr e1 size tk (mencR KK G2 es)):=
 .mapr h.loc h.heap h.u (by simpa[mencR]using h.n) (by simpa[mencR]using h.sl) h.nd fun i k' rows hi=>by
  simp only[mencR,jAq,jAj,Prod.mk.injEq]at hi;obtain ⟨p,hp,rfl,rfl⟩:=hi;have hlt:i < ents.size:=by rw[h.n];exact (jAc.1 hp).1
  have hx:=jBj hlt;exact ⟨_,hx,h.key i p _ hp hx,h.cv i _ hx,h.ent i p _ hp hx⟩
def Qva:Loc->Loc
 | .map b=>.mapr b []
 | l=>l
def AV.mrs(o:Nat):AV->AV
 | .mp x=>bif Nat.beq x o then .mr o else .mp x
 | c=>bif c.has o then .any else c
theorem rel_mrs{g g' :G}(hx:Ext g.w g.u g'.w g'.u)(hk:∀k,k≠o->g'.loc k=g.loc k)(hl:g'.loc o=Qva (g.loc o)){c:AV}{v:Value}(h:Rel g c v):Rel g' (c.mrs o) v:=by
 cases c
 case mp x=>
  cases hb:Nat.beq x o with
  | true=>
   rw[show AV.mrs o (.mp x)=.mr o by show (bif Nat.beq x o then AV.mr o else AV.mp x)=_;rw[hb];rfl];have:x=o:=jAn hb;subst this;cases h with
   | mp h1=>exact .mr (subs:=[]) (by rw[hl,h1];rfl)
  | false=>
   rw[show AV.mrs o (.mp x)=.mp x by show (bif Nat.beq x o then AV.mr o else AV.mp x)=_;rw[hb];rfl];have hne:x≠o:=by rintro rfl;simp at hb
   exact h.mono hx fun k hk' =>hk k (by have:=jAn (show Nat.beq x k=true from hk');subst this;exact hne)
 all_goals exact Qsa hx hk h
theorem St.mapr{g:G}{a:Act}(h:St E g a fr σ)(ho:σ.get o=some (.mapo false []))(e:TypeId)(size:Nat):
 St E ⟨g.w,g.u,fun k=>if k=o then Qva (g.loc o) else g.loc k⟩ a (fr.mp (AV.on (AV.mrs o))) (((σ.dels []).mp (AV.on (AV.mrs o))).upd o (.mapr e size none [])):=by
 have hl:(⟨g.w,g.u,fun k=>if k=o then Qva (g.loc o) else g.loc k⟩:G).loc o=Qva (g.loc o):=if_pos rfl;have hob:=h.so.obj o _ ho;generalize hms:([]:List (Value × List PV))=ms at hob;cases hob with
 | @mapo _ _ b clock ents h1 h2 h3 h4 h5=>
  subst hms;refine h.turn (g' :=⟨g.w,g.u,fun k=>if k=o then Qva (g.loc o) else g.loc k⟩) ho [] (by simp) _ rfl (fun c v=>vIb fun c v=>rel_mrs (g:=g) (g' :=⟨g.w,g.u,fun k=>if k=o then Qva (g.loc o) else g.loc k⟩) (Ext.refl _ _) (fun k hk=>if_neg hk) hl) (Ext.refl _ _) (fun k hk=>if_neg hk) rfl rfl rfl (fun _ _ _=>⟨rfl,rfl⟩) h.so.wf ?_ (fun q hq=>.inl ⟨o,_,.inl rfl,ho,?_⟩)
  .exact .mapr (subs:=[]) (by rw[hl,h1];rfl) h2 h3 h4 rfl (by simp[zTa]) (fun i k rows hi=>by simp at hi)
  rw[hl,h1]at hq;rw[h1];rcases hq with hq | hq
  .exact hq
  cases hq
end
end
section
section
variable {E:Env} {ρ:Operand->AV} {P:Program} {fr FR:Fr} {σ:Sto} {dst:Option Nat} {ty:TypeId} {pos:String} {af:Array Edge} {gu:Option (Nat × Bool)}
theorem zCa{x:Operand}{r i j0:Nat}(hx:ρ x=.np r i j0):EvQ P ⟨dst,.nilCheck x,ty,pos,af,gu⟩ ρ σ (.np r i j0):=
 ⟨fun c=>by simp,fun g ρv h _=>by
  have h1:=h x (by simp[Op.operands]);rw[hx]at h1;generalize hv:ρv x=v at h1;cases h1 with
  | np hl hi=>
   refine ⟨_,?_,.np hl hi⟩;simp[execOp,hv,go_sem]⟩
theorem zta{x:Operand}{t:TypeId}{r i j0 f q:Nat}{fs:Array Field}{fl:Field}{fsize fbytes:Nat}{fzero:Value}{fd:TypeDesc}(hx:ρ x=.np r i j0)(ht:P.underlying t=some (.struct fs))(hf:fs[f]? =some fl)(hft:TyOk P fl.type fsize fbytes fzero fd)(hz:Nat.beq fsize 0=false)(hq:Nat.beq (j0+fl.offset) q=true):
 EvQ P ⟨dst,.fieldAddr t x f,ty,pos,af,gu⟩ ρ σ (.np r i q):=by
 rw[<-jAn hq];exact VRa hx ht hf hft hz
theorem wCa{x:Operand}{t:TypeId}{r i k0 j0 f q:Nat}{fs:Array Field}{fl:Field}{fsize fbytes:Nat}{fzero:Value}{fd:TypeDesc}(hx:ρ x=.hnp r i k0 j0)(ht:P.underlying t=some (.struct fs))(hf:fs[f]? =some fl)(hft:TyOk P fl.type fsize fbytes fzero fd)(hz:Nat.beq fsize 0=false)(hq:Nat.beq (j0+fl.offset) q=true):
 EvQ P ⟨dst,.fieldAddr t x f,ty,pos,af,gu⟩ ρ σ (.hnp r i k0 q):=by
 rw[<-jAn hq];exact Q2a hx ht hf hft hz
theorem ev_min3{k:IntKind}{a b c:Int}{x y z:Operand}{ats:Array TypeId}(hx:ρ x=.pv (.b (.int k a)))(hy:ρ y=.pv (.b (.int k b)))(hz:ρ z=.pv (.b (.int k c))):EvQ P ⟨dst,.call ⟨.builtin .min, #[x,y,z],ats⟩,ty,pos,af,gu⟩ ρ σ (.pv (.b (.int k (min (min a b) c)))):=
 ⟨fun c=>by simp,fun g ρv h _=>by
  have h1:=h x (by simp[Op.operands,Call.operands]);have h2:=h y (by simp[Op.operands,Call.operands]);have h3:=h z (by simp[Op.operands,Call.operands]);rw[hx]at h1;rw[hy]at h2;rw[hz]at h3;have e1:=koa h1;have e2:=koa h2;have e3:=koa h3;refine ⟨.int k (min (min a b) c),?_,.pv (.b rfl)⟩;have q1:(if b < a then b else a)=min a b:=by omega
  have q2:(if c < min a b then c else min a b)=min (min a b) c:=by omega
  simp[execOp,resolve,Deferred.ofValue,invoke,builtin,Builtin.min_,Builtin.min2,e1,e2,e3,go_sem,q1,q2]⟩
end
section
variable {E:Env} {FR:Fr} {σ:Sto} {ty:TypeId} {pos:String} {af:Array Edge} {gu:Option (Nat × Bool)} {α β:Type} {F:α->List PV} {G2:β->List PV} {l:List α} {l2:List β} {e e2 t' :TypeId} {size size2 size' bytes' j j0 m r r2:Nat} {zero' :Value} {d' :TypeDesc} {x y:Operand} {n n2:Int} {v v' :α} {w2 w2' :β} {pcs:List PV}
theorem Qwa(hx:FR.ev x=.np r n.toNat j0)(hr:σ.get r=some (.nrow e size j e2 size2 m (l.map F)))(hy:(FR.ev y).weak.cells=some (pcs.map .pv))(ht:TyOk E.P t' size' bytes' zero' d')(hz:Nat.beq pcs.length size' =true)
 (hv:idx l n=some v) (hle:Nat.ble (j0+pcs.length) (F v).length=true) (hj:(Nat.ble (j+1) j0 || Nat.ble (j0+pcs.length) j)=true) (hF' :F v' =(F v).take j0++pcs++(F v).drop (j0+pcs.length)):
 HvS E ⟨none,.store t' x y,ty,pos,af,gu⟩ FR σ (σ.upd r (.nrow e size j e2 size2 m ((l.set n.toNat v').map F))):=
 ⟨fun fr he _=>Zia ((he x (by simp[Op.operands,Call.operands])).trans hx) hr (by rw[he y (by simp[Op.operands,Call.operands])];exact hy) ht hz hv hle hj hF'⟩
theorem frLe_mp1{fr:Fr}:FrLe (fr.mp (AV.clr r2)) (fr.clrs [r2]):=fun d=>by
 rw[Fr.get_mp rfl,Fr.get_clrs];exact .inr (.inl (by simp[AV.clr,AV.clrs]))
theorem YYa(hx:FR.ev x=.np r n.toNat j0)(hr:σ.get r=some (.nrow e size j e2 size2 m (l.map F)))(hy:FR.ev y=.hs r2 0)(hr2:σ.get r2=some (.row e2 true size2 (l2.map G2)))(hne:Nat.beq r r2=false)(ht:TyOk E.P t' 1 bytes' zero' d')
 (hj:Nat.beq j0 j=true) (hv:idx l n=some v) (hm:n.toNat=m) (hjs:Nat.ble (j+1) (F v).length=true) (hF' :F v' =(F v).set j (.sl none (l2.map G2))):
 HvP E ⟨none,.store t' x y,ty,pos,af,gu⟩ FR σ [r2] (((σ.dels [r2]).mp (AV.clr r2)).upd r (.nrow e size j e2 size2 (m+1) ((l.set n.toNat v').map F))):=
 ⟨fun fr he _=>Qqa (qnb ((he x (by simp[Op.operands,Call.operands])).trans hx) hr ((he y (by simp[Op.operands,Call.operands])).trans hy) hr2 hne ht hj hv hm hjs hF') frLe_mp1 kFa⟩
end
end
section
section
variable {P:Program} {t:TypeId}
variable {ρ:Operand->AV} {σ:Sto} {dst:Option Nat} {ty:TypeId} {pos:String} {af:Array Edge} {gu:Option (Nat × Bool)} {x y:Operand} {ss sb:Nat} {sz:Value}
end
end
section
variable {E:Env} {fr:Fr} {σ:Sto} {K:Post} {k:KS} {ops:Array Oper} {T:Tab} {c:AV} {t ty:TypeId} {pos:String} {af:Array Edge} {row:VDa}
theorem JYa(m:Nat):∀(k i:Nat),JMa m [] k i=[(List.range' i k).map fun j=> !(Nat.ble m j)]
 | 0,i=>rfl
 | k+1,i=>by
  unfold JMa;rw[JYa m k (i+1),List.range'_succ];cases h:Nat.ble m i <;> simp[h]
theorem JZa:∀(cs:List AV) (bs:List Bool),cs.length<=bs.length->(bs.take cs.length).all id=true->JOa cs bs=cs
 | [],bs,_,_=>by cases bs <;> rfl
 | c::cs,[],h,_=>by simp at h
 | c::cs,b::bs,h,hb=>by
  simp at h hb;unfold JOa;rw[JZa cs bs (by omega) (by simpa using hb.2),hb.1];rfl
theorem drX0{id:Nat}{l:List Oper}(m:Nat)(new:Fr){cs:List AV}{az:ObX}{σ' :Sto}(hmix:E.P.follows .mixedOrders=true)(hok:Qoa l m m []=true)(hm:Nat.ble m l.length=true)(hN:((l.take m).all fun o=>o.dst.all fun d=>Nat.ble (d+1) E.N)=true)
 (hT:k3a E.P []) (hp:wMa E l.toArray (new++fr) σ (l.take m) cs az) (hfree:qfb fr σ cs az=true) (hσ:objX (fun _=>true) 0 az++σ=σ') (hnew:jAa (l.take m) cs []=new) (h:AWPL E l.toArray (l.drop m) (new++fr) σ' K):AWP E (.region id l.toArray true) fr σ K:=by
 have hm' :=jAe hm;have hlen:cs.length=m:=by rw[hp.len.1,jBl];omega
 have hl:VJa [] E.N l m m [] 1 cs fr σ' =some [(new++fr,σ')]:=by
  unfold VJa;rw[JYa];have hall:List.all (List.take m ((List.range' 0 l.length).map fun j=> !(Nat.ble m j))) _root_.id=true:=by
   rw[jAw];intro x hx;obtain ⟨i,hi,rfl⟩:=List.mem_iff_getElem.1 hx;simp at hi;cases hb:Nat.ble m i with
   | true=>have:=jAe hb;omega
   | false=>simp[hb]
  have hmask:=JZa cs ((List.range' 0 l.length).map fun j=> !(Nat.ble m j)) (by simp;omega) (by rw[hlen];exact hall);have ht:VIa [] E.N l m 1 ((List.range' 0 l.length).map fun j=> !(Nat.ble m j)) (jAa (l.take m) (JOa cs ((List.range' 0 l.length).map fun j=> !(Nat.ble m j))) []++fr) σ' =some [(new++fr,σ')]:=by
   rw[hmask,hnew];unfold VIa;rw[hall]
  unfold zRb;dsimp only;rw[ht];rfl
 exact W3a m m 1 [] new (new++fr) σ' hT hmix hok (Nat.ble_eq_true_of_le (jBc _)) hm rfl hN hp hfree hσ hnew hl (fun p hp=>by
  rw[jCc.1 hp];exact ⟨qLa,kFa⟩) h
theorem drA{id:Nat}{l:List Oper}(m:Nat)(new:Fr){cs:List AV}{az:ObX}{σ' :Sto}(hmix:E.P.follows .mixedOrders=true)(hok:Qoa l m m []=true)(hm:Nat.ble m l.length=true)(hN:((l.take m).all fun o=>o.dst.all fun d=>Nat.ble (d+1) E.N)=true)
 (hp:wMa E l.toArray (new++fr) σ (l.take m) cs az) (hfree:qfb fr σ cs az=true) (hσ:objX (fun _=>true) 0 az++σ=σ') (hnew:jAa (l.take m) cs []=new) (h:(GS.ops l.toArray (l.drop m) (new++fr) σ' k).holds E):(GS.code (.region id l.toArray true) fr σ k).holds E:=
 drX0 m new hmix hok hm hN (fun t r h=>by cases h) hp hfree hσ hnew h
theorem vNb:∀(az:ObX) (n:Nat),(az.all fun x=>x.isNone)=true->idX az=[]/\objX (fun _=>true) n az=[]
 | [],_,_=>⟨rfl,rfl⟩
 | none::az,n,h=>vNb az (n+1) (by simpa using h)
 | some x::az,n,h=>by simp at h
theorem dr{id:Nat}{l:List Oper}(m:Nat)(new:Fr){cs:List AV}{az:ObX}(hmix:E.P.follows .mixedOrders=true)(hok:Qoa l m m []=true)(hm:Nat.ble m l.length=true)(hN:((l.take m).all fun o=>o.dst.all fun d=>Nat.ble (d+1) E.N)=true)
 (hp:wMa E l.toArray (new++fr) σ (l.take m) cs az) (hnew:jAa (l.take m) cs []=new) (h:(GS.ops l.toArray (l.drop m) (new++fr) σ k).holds E) (hz:(az.all fun x=>x.isNone)=true:=by rfl):(GS.code (.region id l.toArray true) fr σ k).holds E:=by
 obtain ⟨h1,h2⟩:=vNb az 0 hz;refine drX0 m new hmix hok hm hN (fun t r h=>by cases h) hp ?_ (by rw[h2];rfl) hnew h;unfold qfb;rw[h1];simp[YGa];intro x hx;cases x <;> simp
theorem pqA{o:Oper}{l:List Oper}{cs:List AV}{az:ObX}(hT:k3a E.P T)(hq:qval T fr.ev σ o.op=some c)(hg:qFa ops fr o)(hr:wMa E ops fr σ l cs az):wMa E ops fr σ (o::l) (c::cs) (none::az):=pqX hT hq hg hr
theorem pq{o:Oper}{l:List Oper}{cs:List AV}{az:ObX}(hT:k3a E.P T)(hq:qval T fr.ev σ o.op=some c)(hg:qFa ops fr o)(hr:wMa E ops fr σ l cs az):wMa E ops fr σ (o::l) (c::cs) (none::az):=pqX hT hq hg hr
theorem pnA{d:Nat}{gu:Option (Nat × Bool)}{l:List Oper}{cs ds:List AV}{az:ObX}(id:Nat)(hT:k3a E.P T)(ht:T.get t=some row)(hz:w3a (row.zero.cells.toList.map vna)=some ds)(hz2:row.zero.cells.toList.all cellV=true)(hg:qFa ops fr ⟨some d,.alloc t,ty,pos,af,gu⟩)(hr:wMa E ops fr σ l cs az):wMa E ops fr σ (⟨some d,.alloc t,ty,pos,af,gu⟩::l) (.ptr id 0::cs) (some (id,.cells ds)::az):=pnX id hT ht hz hz2 hg hr
end
theorem mixed:prog.follows .mixedOrders=true:=by kernel_rfl
theorem qTa:YDa prog 37:=⟨by kernel_rfl,by kernel_rfl⟩
theorem YZa:YDa prog 80:=⟨by kernel_rfl,by kernel_rfl⟩
theorem VTa:YDa prog 71:=⟨by kernel_rfl,by kernel_rfl⟩
theorem y7a:YDa prog 78:=⟨by kernel_rfl,by kernel_rfl⟩
theorem jGa:YDa prog 141:=⟨by kernel_rfl,by kernel_rfl⟩
theorem Wza (w : World) : Sem.run prog (Array.mapM (fun (f : Field) => do pure (f.offset, <- sizeOf f.type)) #[⟨"Entry", 3, 0, false, "", "", 0⟩, ⟨"Domain", 9, 1, false, "", "", 8⟩, ⟨"To", 31, 2, false, "", "", 24⟩]) w = .ok #[(0, 1), (1, 1), (2, 1)] w := by kernel_rfl
theorem J0a (w : World) : Sem.run prog (Array.mapM (fun (f : Field) => do pure (f.offset, <- sizeOf f.type)) #[⟨"Id", 3, 0, false, "", "", 0⟩, ⟨"Mail", 30, 1, false, "", "", 8⟩, ⟨"Since", 3, 6, false, "", "", 112⟩, ⟨"Tries", 3, 7, false, "", "", 120⟩, ⟨"Due", 3, 8, false, "", "", 128⟩, ⟨"To", 95, 9, false, "", "", 136⟩]) w = .ok #[(0, 1), (1, 5), (6, 1), (7, 1), (8, 1), (9, 1)] w := by kernel_rfl
theorem VUa (w : World) : Sem.run prog (Array.mapM (fun (f : Field) => do pure (f.offset, <- sizeOf f.type)) #[⟨"From", 9, 0, false, "", "", 0⟩, ⟨"To", 23, 1, false, "", "", 16⟩, ⟨"Id", 9, 2, false, "", "", 40⟩]) w = .ok #[(0, 1), (1, 1), (2, 1)] w := by kernel_rfl
theorem J1a (w : World) : Sem.run prog (Array.mapM (fun (f : Field) => do pure (f.offset, <- sizeOf f.type)) #[⟨"Code", 3, 0, false, "", "", 0⟩, ⟨"Index", 3, 1, false, "", "", 8⟩]) w = .ok #[(0, 1), (1, 1)] w := by kernel_rfl
theorem J2a (w : World) : Sem.run prog (Array.mapM (fun (f : Field) => do pure (f.offset, <- sizeOf f.type)) #[⟨"Name", 9, 0, false, "", "", 0⟩, ⟨"Value", 9, 1, false, "", "", 16⟩]) w = .ok #[(0, 1), (1, 1)] w := by kernel_rfl
theorem zZb (w : World) : Sem.run prog (Array.mapM (fun (f : Field) => do pure (f.offset, <- sizeOf f.type)) #[⟨"Envelope", 25, 0, false, "", "", 0⟩, ⟨"Message", 28, 3, false, "", "", 56⟩]) w = .ok #[(0, 3), (3, 2)] w := by kernel_rfl
theorem WAa (w : World) : Sem.run prog (Array.mapM (fun (f : Field) => do pure (f.offset, <- sizeOf f.type)) #[⟨"Fields", 26, 0, false, "", "", 0⟩, ⟨"Body", 22, 1, false, "", "", 24⟩]) w = .ok #[(0, 1), (1, 1)] w := by kernel_rfl
theorem WBa (w : World) : Sem.run prog (Array.mapM (fun (f : Field) => do pure (f.offset, <- sizeOf f.type)) #[⟨"Entry", 3, 0, false, "", "", 0⟩, ⟨"Number", 3, 1, false, "", "", 8⟩, ⟨"Result", 3, 2, false, "", "", 16⟩]) w = .ok #[(0, 1), (1, 1), (2, 1)] w := by kernel_rfl
theorem J3a (w : World) : Sem.run prog (Array.mapM (fun (f : Field) => do pure (f.offset, <- sizeOf f.type)) #[⟨"Entries", 52, 0, false, "", "", 0⟩, ⟨"Next", 3, 1, false, "", "", 24⟩]) w = .ok #[(0, 1), (1, 1)] w := by kernel_rfl
theorem Q3a (w : World) : Sem.run prog (Array.mapM (fun (f : Field) => do pure (f.offset, <- sizeOf f.type)) #[⟨"Address", 9, 0, false, "", "", 0⟩, ⟨"Notify", 3, 1, false, "", "", 16⟩]) w = .ok #[(0, 1), (1, 1)] w := by kernel_rfl
theorem Y0a (w : World) : Sem.run prog (Array.mapM (fun (f : Field) => do pure (f.offset, <- sizeOf f.type)) #[⟨"Kind", 3, 0, false, "", "", 0⟩, ⟨"Now", 3, 1, false, "", "", 8⟩, ⟨"Mail", 30, 2, false, "", "", 16⟩, ⟨"Attempt", 33, 7, false, "", "", 120⟩, ⟨"Results", 31, 10, false, "", "", 168⟩]) w = .ok #[(0, 1), (1, 1), (2, 5), (7, 3), (10, 1)] w := by kernel_rfl
theorem WCa (w : World) : Sem.run prog (Array.mapM (fun (f : Field) => do pure (f.offset, <- sizeOf f.type)) #[⟨"Recipient", 78, 0, false, "", "", 0⟩, ⟨"Result", 3, 2, false, "", "", 24⟩, ⟨"Busy", 4, 3, false, "", "", 32⟩]) w = .ok #[(0, 2), (2, 1), (3, 1)] w := by kernel_rfl
theorem jHa (w : World) : Sem.run prog (Array.mapM (fun (f : Field) => do pure (f.offset, <- sizeOf f.type)) #[⟨"b", 22, 0, false, "", "posthouse/posthouseref4", 0⟩, ⟨"bad", 4, 1, false, "", "posthouse/posthouseref4", 24⟩]) w = .ok #[(0, 1), (1, 1)] w := by kernel_rfl
theorem J4a (w : World) : Sem.run prog (Array.mapM (fun (f : Field) => do pure (f.offset, <- sizeOf f.type)) #[⟨"entry", 3, 0, false, "", "posthouse/queue", 0⟩, ⟨"domain", 9, 1, false, "", "posthouse/queue", 8⟩]) w = .ok #[(0, 1), (1, 1)] w := by kernel_rfl
theorem VVa (w : World) : Sem.run prog (Array.mapM (fun (f : Field) => do pure (f.offset, <- sizeOf f.type)) #[⟨"b", 22, 0, false, "", "posthouse/spool", 0⟩, ⟨"bad", 4, 1, false, "", "posthouse/spool", 24⟩]) w = .ok #[(0, 1), (1, 1)] w := by kernel_rfl
theorem VWa (w : World) : Sem.run prog (Array.mapM (fun (f : Field) => do pure (f.offset, <- sizeOf f.type)) #[⟨"out", 22, 0, false, "", "posthouse/spool", 0⟩]) w = .ok #[(0, 1)] w := by kernel_rfl
theorem Z2a : TyOk prog 33 3 48 (.agg #[.int .i64 0, .string ⟨#[]⟩, .slice none 0 0]) (.struct #[⟨"Entry", 3, 0, false, "", "", 0⟩, ⟨"Domain", 9, 1, false, "", "", 8⟩, ⟨"To", 31, 2, false, "", "", 24⟩]) := ⟨by kernel_rfl, by kernel_rfl⟩
theorem zqa : TyOk prog 97 10 160 (.agg #[.int .i64 0, .string ⟨#[]⟩, .slice none 0 0, .string ⟨#[]⟩, .slice none 0 0, .slice none 0 0, .int .i64 0, .int .i64 0, .int .i64 0, .slice none 0 0]) (.struct #[⟨"Id", 3, 0, false, "", "", 0⟩, ⟨"Mail", 30, 1, false, "", "", 8⟩, ⟨"Since", 3, 6, false, "", "", 112⟩, ⟨"Tries", 3, 7, false, "", "", 120⟩, ⟨"Due", 3, 8, false, "", "", 128⟩, ⟨"To", 95, 9, false, "", "", 136⟩]) := ⟨by kernel_rfl, by kernel_rfl⟩
theorem Zja : TyOk prog 25 3 56 (.agg #[.string ⟨#[]⟩, .slice none 0 0, .string ⟨#[]⟩]) (.struct #[⟨"From", 9, 0, false, "", "", 0⟩, ⟨"To", 23, 1, false, "", "", 16⟩, ⟨"Id", 9, 2, false, "", "", 40⟩]) := ⟨by kernel_rfl, by kernel_rfl⟩
theorem qRa : TyOk prog 37 2 16 (.agg #[.int .i64 0, .int .i64 0]) (.struct #[⟨"Code", 3, 0, false, "", "", 0⟩, ⟨"Index", 3, 1, false, "", "", 8⟩]) := ⟨by kernel_rfl, by kernel_rfl⟩
theorem kIa : TyOk prog 80 2 32 (.agg #[.string ⟨#[]⟩, .string ⟨#[]⟩]) (.struct #[⟨"Name", 9, 0, false, "", "", 0⟩, ⟨"Value", 9, 1, false, "", "", 16⟩]) := ⟨by kernel_rfl, by kernel_rfl⟩
theorem kPa : TyOk prog 30 5 104 (.agg #[.string ⟨#[]⟩, .slice none 0 0, .string ⟨#[]⟩, .slice none 0 0, .slice none 0 0]) (.struct #[⟨"Envelope", 25, 0, false, "", "", 0⟩, ⟨"Message", 28, 3, false, "", "", 56⟩]) := ⟨by kernel_rfl, by kernel_rfl⟩
theorem qBa : TyOk prog 28 2 48 (.agg #[.slice none 0 0, .slice none 0 0]) (.struct #[⟨"Fields", 26, 0, false, "", "", 0⟩, ⟨"Body", 22, 1, false, "", "", 24⟩]) := ⟨by kernel_rfl, by kernel_rfl⟩
theorem vMa : TyOk prog 71 3 24 (.agg #[.int .i64 0, .int .i64 0, .int .i64 0]) (.struct #[⟨"Entry", 3, 0, false, "", "", 0⟩, ⟨"Number", 3, 1, false, "", "", 8⟩, ⟨"Result", 3, 2, false, "", "", 16⟩]) := ⟨by kernel_rfl, by kernel_rfl⟩
theorem QRa : TyOk prog 54 2 32 (.agg #[.slice none 0 0, .int .i64 0]) (.struct #[⟨"Entries", 52, 0, false, "", "", 0⟩, ⟨"Next", 3, 1, false, "", "", 24⟩]) := ⟨by kernel_rfl, by kernel_rfl⟩
theorem zPa : TyOk prog 78 2 24 (.agg #[.string ⟨#[]⟩, .int .i64 0]) (.struct #[⟨"Address", 9, 0, false, "", "", 0⟩, ⟨"Notify", 3, 1, false, "", "", 16⟩]) := ⟨by kernel_rfl, by kernel_rfl⟩
theorem k5a : TyOk prog 35 11 192 (.agg #[.int .i64 0, .int .i64 0, .string ⟨#[]⟩, .slice none 0 0, .string ⟨#[]⟩, .slice none 0 0, .slice none 0 0, .int .i64 0, .string ⟨#[]⟩, .slice none 0 0, .slice none 0 0]) (.struct #[⟨"Kind", 3, 0, false, "", "", 0⟩, ⟨"Now", 3, 1, false, "", "", 8⟩, ⟨"Mail", 30, 2, false, "", "", 16⟩, ⟨"Attempt", 33, 7, false, "", "", 120⟩, ⟨"Results", 31, 10, false, "", "", 168⟩]) := ⟨by kernel_rfl, by kernel_rfl⟩
theorem kMa : TyOk prog 100 4 40 (.agg #[.string ⟨#[]⟩, .int .i64 0, .int .i64 0, .bool false]) (.struct #[⟨"Recipient", 78, 0, false, "", "", 0⟩, ⟨"Result", 3, 2, false, "", "", 24⟩, ⟨"Busy", 4, 3, false, "", "", 32⟩]) := ⟨by kernel_rfl, by kernel_rfl⟩
theorem Kla:TyOk prog 4 1 1 (.bool false) .bool:=⟨by kernel_rfl,by kernel_rfl⟩
theorem zZa:TyOk prog 3 1 8 (.int .i64 0) (.int .i64):=⟨by kernel_rfl,by kernel_rfl⟩
theorem ty_int32:TyOk prog 21 1 4 (.int .i32 0) (.int .i32):=⟨by kernel_rfl,by kernel_rfl⟩
theorem qwa:TyOk prog 137 1 8 (.map none) (.map 141 4):=⟨by kernel_rfl,by kernel_rfl⟩
theorem vEa:TyOk prog 136 1 8 (.map none) (.map 9 3):=⟨by kernel_rfl,by kernel_rfl⟩
theorem Qxa:TyOk prog 112 1 8 (.pointer none) (.pointer 114):=⟨by kernel_rfl,by kernel_rfl⟩
theorem Qya:TyOk prog 103 1 8 (.pointer none) (.pointer 105):=⟨by kernel_rfl,by kernel_rfl⟩
theorem jIa : TyOk prog 121 2 32 (.agg #[.slice none 0 0, .bool false]) (.struct #[⟨"b", 22, 0, false, "", "posthouse/posthouseref4", 0⟩, ⟨"bad", 4, 1, false, "", "posthouse/posthouseref4", 24⟩]) := ⟨by kernel_rfl, by kernel_rfl⟩
theorem yMa : TyOk prog 141 2 24 (.agg #[.int .i64 0, .string ⟨#[]⟩]) (.struct #[⟨"entry", 3, 0, false, "", "posthouse/queue", 0⟩, ⟨"domain", 9, 1, false, "", "posthouse/queue", 8⟩]) := ⟨by kernel_rfl, by kernel_rfl⟩
theorem zxa:TyOk prog 52 1 24 (.slice none 0 0) (.slice 97):=⟨by kernel_rfl,by kernel_rfl⟩
theorem z8a:TyOk prog 26 1 24 (.slice none 0 0) (.slice 80):=⟨by kernel_rfl,by kernel_rfl⟩
theorem vQa:TyOk prog 55 1 24 (.slice none 0 0) (.slice 71):=⟨by kernel_rfl,by kernel_rfl⟩
theorem zza:TyOk prog 23 1 24 (.slice none 0 0) (.slice 78):=⟨by kernel_rfl,by kernel_rfl⟩
theorem kQa:TyOk prog 45 1 24 (.slice none 0 0) (.slice 35):=⟨by kernel_rfl,by kernel_rfl⟩
theorem zra:TyOk prog 95 1 24 (.slice none 0 0) (.slice 100):=⟨by kernel_rfl,by kernel_rfl⟩
theorem ZMa:TyOk prog 31 1 24 (.slice none 0 0) (.slice 3):=⟨by kernel_rfl,by kernel_rfl⟩
theorem J5a:TyOk prog 102 1 24 (.slice none 0 0) (.slice 22):=⟨by kernel_rfl,by kernel_rfl⟩
theorem VXa:TyOk prog 108 1 24 (.slice none 0 0) (.slice 9):=⟨by kernel_rfl,by kernel_rfl⟩
theorem zna:TyOk prog 22 1 24 (.slice none 0 0) (.slice 5):=⟨by kernel_rfl,by kernel_rfl⟩
theorem VYa : TyOk prog 114 2 32 (.agg #[.slice none 0 0, .bool false]) (.struct #[⟨"b", 22, 0, false, "", "posthouse/spool", 0⟩, ⟨"bad", 4, 1, false, "", "posthouse/spool", 24⟩]) := ⟨by kernel_rfl, by kernel_rfl⟩
theorem VZa : TyOk prog 105 1 24 (.agg #[.slice none 0 0]) (.struct #[⟨"out", 22, 0, false, "", "posthouse/spool", 0⟩]) := ⟨by kernel_rfl, by kernel_rfl⟩
theorem kaa:TyOk prog 9 1 16 (.string ⟨#[]⟩) .string:=⟨by kernel_rfl,by kernel_rfl⟩
theorem ty_uint:TyOk prog 189 1 8 (.int .u64 0) (.int .u64):=⟨by kernel_rfl,by kernel_rfl⟩
theorem kda:TyOk prog 82 1 8 (.int .u64 0) (.int .u64):=⟨by kernel_rfl,by kernel_rfl⟩
theorem zFa:TyOk prog 5 1 1 (.int .u8 0) (.int .u8):=⟨by kernel_rfl,by kernel_rfl⟩
def tab : Tab := [(33, ⟨3, 48, (.agg #[.int .i64 0, .string ⟨#[]⟩, .slice none 0 0]), (.struct #[⟨"Entry", 3, 0, false, "", "", 0⟩, ⟨"Domain", 9, 1, false, "", "", 8⟩, ⟨"To", 31, 2, false, "", "", 24⟩]), (some #[(0, 1), (1, 1), (2, 1)])⟩), (97, ⟨10, 160, (.agg #[.int .i64 0, .string ⟨#[]⟩, .slice none 0 0, .string ⟨#[]⟩, .slice none 0 0, .slice none 0 0, .int .i64 0, .int .i64 0, .int .i64 0, .slice none 0 0]), (.struct #[⟨"Id", 3, 0, false, "", "", 0⟩, ⟨"Mail", 30, 1, false, "", "", 8⟩, ⟨"Since", 3, 6, false, "", "", 112⟩, ⟨"Tries", 3, 7, false, "", "", 120⟩, ⟨"Due", 3, 8, false, "", "", 128⟩, ⟨"To", 95, 9, false, "", "", 136⟩]), (some #[(0, 1), (1, 5), (6, 1), (7, 1), (8, 1), (9, 1)])⟩), (25, ⟨3, 56, (.agg #[.string ⟨#[]⟩, .slice none 0 0, .string ⟨#[]⟩]), (.struct #[⟨"From", 9, 0, false, "", "", 0⟩, ⟨"To", 23, 1, false, "", "", 16⟩, ⟨"Id", 9, 2, false, "", "", 40⟩]), (some #[(0, 1), (1, 1), (2, 1)])⟩), (37, ⟨2, 16, (.agg #[.int .i64 0, .int .i64 0]), (.struct #[⟨"Code", 3, 0, false, "", "", 0⟩, ⟨"Index", 3, 1, false, "", "", 8⟩]), (some #[(0, 1), (1, 1)])⟩), (80, ⟨2, 32, (.agg #[.string ⟨#[]⟩, .string ⟨#[]⟩]), (.struct #[⟨"Name", 9, 0, false, "", "", 0⟩, ⟨"Value", 9, 1, false, "", "", 16⟩]), (some #[(0, 1), (1, 1)])⟩), (30, ⟨5, 104, (.agg #[.string ⟨#[]⟩, .slice none 0 0, .string ⟨#[]⟩, .slice none 0 0, .slice none 0 0]), (.struct #[⟨"Envelope", 25, 0, false, "", "", 0⟩, ⟨"Message", 28, 3, false, "", "", 56⟩]), (some #[(0, 3), (3, 2)])⟩), (28, ⟨2, 48, (.agg #[.slice none 0 0, .slice none 0 0]), (.struct #[⟨"Fields", 26, 0, false, "", "", 0⟩, ⟨"Body", 22, 1, false, "", "", 24⟩]), (some #[(0, 1), (1, 1)])⟩), (71, ⟨3, 24, (.agg #[.int .i64 0, .int .i64 0, .int .i64 0]), (.struct #[⟨"Entry", 3, 0, false, "", "", 0⟩, ⟨"Number", 3, 1, false, "", "", 8⟩, ⟨"Result", 3, 2, false, "", "", 16⟩]), (some #[(0, 1), (1, 1), (2, 1)])⟩), (54, ⟨2, 32, (.agg #[.slice none 0 0, .int .i64 0]), (.struct #[⟨"Entries", 52, 0, false, "", "", 0⟩, ⟨"Next", 3, 1, false, "", "", 24⟩]), (some #[(0, 1), (1, 1)])⟩), (78, ⟨2, 24, (.agg #[.string ⟨#[]⟩, .int .i64 0]), (.struct #[⟨"Address", 9, 0, false, "", "", 0⟩, ⟨"Notify", 3, 1, false, "", "", 16⟩]), (some #[(0, 1), (1, 1)])⟩), (35, ⟨11, 192, (.agg #[.int .i64 0, .int .i64 0, .string ⟨#[]⟩, .slice none 0 0, .string ⟨#[]⟩, .slice none 0 0, .slice none 0 0, .int .i64 0, .string ⟨#[]⟩, .slice none 0 0, .slice none 0 0]), (.struct #[⟨"Kind", 3, 0, false, "", "", 0⟩, ⟨"Now", 3, 1, false, "", "", 8⟩, ⟨"Mail", 30, 2, false, "", "", 16⟩, ⟨"Attempt", 33, 7, false, "", "", 120⟩, ⟨"Results", 31, 10, false, "", "", 168⟩]), (some #[(0, 1), (1, 1), (2, 5), (7, 3), (10, 1)])⟩), (100, ⟨4, 40, (.agg #[.string ⟨#[]⟩, .int .i64 0, .int .i64 0, .bool false]), (.struct #[⟨"Recipient", 78, 0, false, "", "", 0⟩, ⟨"Result", 3, 2, false, "", "", 24⟩, ⟨"Busy", 4, 3, false, "", "", 32⟩]), (some #[(0, 2), (2, 1), (3, 1)])⟩), (4, ⟨1, 1, (.bool false), .bool, none⟩), (3, ⟨1, 8, (.int .i64 0), (.int .i64), none⟩), (21, ⟨1, 4, (.int .i32 0), (.int .i32), none⟩), (137, ⟨1, 8, (.map none), (.map 141 4), none⟩), (136, ⟨1, 8, (.map none), (.map 9 3), none⟩), (112, ⟨1, 8, (.pointer none), (.pointer 114), none⟩), (103, ⟨1, 8, (.pointer none), (.pointer 105), none⟩), (121, ⟨2, 32, (.agg #[.slice none 0 0, .bool false]), (.struct #[⟨"b", 22, 0, false, "", "posthouse/posthouseref4", 0⟩, ⟨"bad", 4, 1, false, "", "posthouse/posthouseref4", 24⟩]), (some #[(0, 1), (1, 1)])⟩), (141, ⟨2, 24, (.agg #[.int .i64 0, .string ⟨#[]⟩]), (.struct #[⟨"entry", 3, 0, false, "", "posthouse/queue", 0⟩, ⟨"domain", 9, 1, false, "", "posthouse/queue", 8⟩]), (some #[(0, 1), (1, 1)])⟩), (52, ⟨1, 24, (.slice none 0 0), (.slice 97), none⟩), (26, ⟨1, 24, (.slice none 0 0), (.slice 80), none⟩), (55, ⟨1, 24, (.slice none 0 0), (.slice 71), none⟩), (23, ⟨1, 24, (.slice none 0 0), (.slice 78), none⟩), (45, ⟨1, 24, (.slice none 0 0), (.slice 35), none⟩), (95, ⟨1, 24, (.slice none 0 0), (.slice 100), none⟩), (31, ⟨1, 24, (.slice none 0 0), (.slice 3), none⟩), (102, ⟨1, 24, (.slice none 0 0), (.slice 22), none⟩), (108, ⟨1, 24, (.slice none 0 0), (.slice 9), none⟩), (22, ⟨1, 24, (.slice none 0 0), (.slice 5), none⟩), (114, ⟨2, 32, (.agg #[.slice none 0 0, .bool false]), (.struct #[⟨"b", 22, 0, false, "", "posthouse/spool", 0⟩, ⟨"bad", 4, 1, false, "", "posthouse/spool", 24⟩]), (some #[(0, 1), (1, 1)])⟩), (105, ⟨1, 24, (.agg #[.slice none 0 0]), (.struct #[⟨"out", 22, 0, false, "", "posthouse/spool", 0⟩]), (some #[(0, 1)])⟩), (9, ⟨1, 16, (.string ⟨#[]⟩), .string, none⟩), (189, ⟨1, 8, (.int .u64 0), (.int .u64), none⟩), (82, ⟨1, 8, (.int .u64 0), (.int .u64), none⟩), (5, ⟨1, 1, (.int .u8 0), (.int .u8), none⟩)]
theorem tk:k3a prog tab:=(qaa Z2a Wza (qaa zqa J0a (qaa Zja VUa (qaa qRa J1a (qaa kIa J2a (qaa kPa zZb (qaa qBa WAa (qaa vMa WBa (qaa QRa J3a (qaa zPa Q3a (qaa k5a Y0a (qaa kMa WCa (k4a Kla (k4a zZa (k4a ty_int32 (k4a qwa (k4a vEa (k4a Qxa (k4a Qya (qaa jIa jHa (qaa yMa J4a (k4a zxa (k4a z8a (k4a vQa (k4a zza (k4a kQa (k4a zra (k4a ZMa (k4a J5a (k4a VXa (k4a zna (qaa VYa VVa (qaa VZa VWa (k4a kaa (k4a ty_uint (k4a kda (k4a zFa tab_nil)))))))))))))))))))))))))))))))))))))
def zsa.ok(x:zsa):Prop:=ok64 x.Code/\ok64 x.Index
def zsa.bk(x:zsa):Nat:=(fun _=>1) x.Code+(fun _=>1) x.Index+1
instance:Inhabited zsa:=⟨⟨default,default⟩⟩
def yLa.ok(x:yLa):Prop:=Wxa x.Address/\(okL Wxa) x.To
def yLa.bk(x:yLa):Nat:=(fun s=>s.length+1) x.Address+(bkL (fun s=>s.length+1)) x.To+1
instance:Inhabited yLa:=⟨⟨default,default⟩⟩
def zba.ok(x:zba):Prop:=Wxa x.Address/\ok64 x.Notify
def zba.bk(x:zba):Nat:=(fun s=>s.length+1) x.Address+(fun _=>1) x.Notify+1
instance:Inhabited zba:=⟨⟨default,default⟩⟩
def zNa.ok(x:zNa):Prop:=Wxa x.From/\(okL zba.ok) x.To/\Wxa x.Id
def zNa.bk(x:zNa):Nat:=(fun s=>s.length+1) x.From+(bkL zba.bk) x.To+(fun s=>s.length+1) x.Id+1
instance:Inhabited zNa:=⟨⟨default,default,default⟩⟩
def zka.ok(x:zka):Prop:=Wxa x.Name/\Wxa x.Value
def zka.bk(x:zka):Nat:=(fun s=>s.length+1) x.Name+(fun s=>s.length+1) x.Value+1
instance:Inhabited zka:=⟨⟨default,default⟩⟩
def zHa.ok(x:zHa):Prop:=(okL zka.ok) x.Fields/\(okL (fun _=>True)) x.Body
def zHa.bk(x:zHa):Nat:=(bkL zka.bk) x.Fields+(bkL (fun _=>1)) x.Body+1
instance:Inhabited zHa:=⟨⟨default,default⟩⟩
def kia.ok(x:kia):Prop:=zNa.ok x.Envelope/\zHa.ok x.Message
def kia.bk(x:kia):Nat:=zNa.bk x.Envelope+zHa.bk x.Message+1
instance:Inhabited kia:=⟨⟨default,default⟩⟩
def zga.ok(x:zga):Prop:=zba.ok x.Recipient/\ok64 x.Result/\(fun _=>True) x.Busy
def zga.bk(x:zga):Nat:=zba.bk x.Recipient+(fun _=>1) x.Result+(fun _=>1) x.Busy+1
instance:Inhabited zga:=⟨⟨default,default,default⟩⟩
def zca.ok(x:zca):Prop:=ok64 x.Id/\kia.ok x.Mail/\ok64 x.Since/\ok64 x.Tries/\ok64 x.Due/\(okL zga.ok) x.To
def zca.bk(x:zca):Nat:=(fun _=>1) x.Id+kia.bk x.Mail+(fun _=>1) x.Since+(fun _=>1) x.Tries+(fun _=>1) x.Due+(bkL zga.bk) x.To+1
instance:Inhabited zca:=⟨⟨default,default,default,default,default,default⟩⟩
def zva.ok(x:zva):Prop:=(okL zca.ok) x.Entries/\ok64 x.Next
def zva.bk(x:zva):Nat:=(bkL zca.bk) x.Entries+(fun _=>1) x.Next+1
instance:Inhabited zva:=⟨⟨default,default⟩⟩
def zwa.ok(x:zwa):Prop:=ok64 x.Entry/\Wxa x.Domain/\(okL ok64) x.To
def zwa.bk(x:zwa):Nat:=(fun _=>1) x.Entry+(fun s=>s.length+1) x.Domain+(bkL (fun _=>1)) x.To+1
instance:Inhabited zwa:=⟨⟨default,default,default⟩⟩
def zla.ok(x:zla):Prop:=ok64 x.Entry/\ok64 x.Number/\ok64 x.Result
def zla.bk(x:zla):Nat:=(fun _=>1) x.Entry+(fun _=>1) x.Number+(fun _=>1) x.Result+1
instance:Inhabited zla:=⟨⟨default,default,default⟩⟩
def zea.ok(x:zea):Prop:=ok64 x.Kind/\ok64 x.Now/\kia.ok x.Mail/\zwa.ok x.Attempt/\(okL ok64) x.Results
def zea.bk(x:zea):Nat:=(fun _=>1) x.Kind+(fun _=>1) x.Now+kia.bk x.Mail+zwa.bk x.Attempt+(bkL (fun _=>1)) x.Results+1
instance:Inhabited zea:=⟨⟨default,default,default,default,default⟩⟩
def zma.ok(x:zma):Prop:=(okL (fun _=>True)) x.out
def zma.bk(x:zma):Nat:=(bkL (fun _=>1)) x.out+1
instance:Inhabited zma:=⟨⟨default⟩⟩
def zha.ok(x:zha):Prop:=(okL (fun _=>True)) x.b/\(fun _=>True) x.bad
def zha.bk(x:zha):Nat:=(bkL (fun _=>1)) x.b+(fun _=>1) x.bad+1
instance:Inhabited zha:=⟨⟨default,default⟩⟩
def kea.ok(x:kea):Prop:=(okL (fun _=>True)) x.b/\(fun _=>True) x.bad
def kea.bk(x:kea):Nat:=(bkL (fun _=>1)) x.b+(fun _=>1) x.bad+1
instance:Inhabited kea:=⟨⟨default,default⟩⟩
theorem op_uint8:yBa prog 5 1 cU (fun _=>True) (fun _=>1):=opens_U zFa.u (by kernel_rfl)
theorem W7a:yBa prog 22 1 (cL cU) (okL (fun _=>True)) (bkL (fun _=>1)):=VKa op_uint8 rfl zna.u (by kernel_rfl)
theorem Z3a:yBa prog 3 1 cI ok64 (fun _=>1):=opens_I zZa.u (by kernel_rfl)
theorem q5a:yBa prog 9 1 cS Wxa (fun s=>s.length+1):=opens_S kaa.u (by kernel_rfl)
theorem Q4a:yBa prog 78 2 zba.pc zba.ok zba.bk:=⟨by kernel_rfl,fun _=>rfl,fun {H enc W fuel cs d} h=>by
 obtain ⟨xs,n,_,rfl,hl,hlen,hf⟩:=DataW.trod_struct zPa.u h;have hl2:cs.length=2:=hl.trans (by kernel_rfl)
 match xs,hlen with
 | [y0,y1],_=>
  obtain ⟨x0,r0,o0,b0⟩:=q5a.op (show _=some y0 from hf 0 _ rfl)
  replace r0:RelC W _ (List.take (prog.cellsOf 9) (List.drop 0 cs)):=r0
  rw[q5a.cells]at r0;obtain ⟨x1,r1,o1,b1⟩:=Z3a.op (show _=some y1 from hf 1 _ rfl)
  replace r1:RelC W _ (List.take (prog.cellsOf 3) (List.drop 1 cs)):=r1
  rw[Z3a.cells]at r1;exact ⟨⟨x0,x1⟩,(qca (off:=0) rfl r0 (qca (off:=1) rfl r1 (jDa hl2))),⟨o0,o1⟩,by simp only[List.map,Rows.uptoBulk,Rows.uptoBulkAll,zba.bk];omega⟩⟩
theorem yNa:yBa prog 23 1 (cL zba.pc) (okL zba.ok) (bkL zba.bk):=VKa Q4a rfl zza.u (by kernel_rfl)
theorem Zka:yBa prog 25 3 zNa.pc zNa.ok zNa.bk:=⟨by kernel_rfl,fun _=>rfl,fun {H enc W fuel cs d} h=>by
 obtain ⟨xs,n,_,rfl,hl,hlen,hf⟩:=DataW.trod_struct Zja.u h;have hl2:cs.length=3:=hl.trans (by kernel_rfl)
 match xs,hlen with
 | [y0,y1,y2],_=>
  obtain ⟨x0,r0,o0,b0⟩:=q5a.op (show _=some y0 from hf 0 _ rfl)
  replace r0:RelC W _ (List.take (prog.cellsOf 9) (List.drop 0 cs)):=r0
  rw[q5a.cells]at r0;obtain ⟨x1,r1,o1,b1⟩:=yNa.op (show _=some y1 from hf 1 _ rfl)
  replace r1:RelC W _ (List.take (prog.cellsOf 23) (List.drop 1 cs)):=r1
  rw[yNa.cells]at r1;obtain ⟨x2,r2,o2,b2⟩:=q5a.op (show _=some y2 from hf 2 _ rfl)
  replace r2:RelC W _ (List.take (prog.cellsOf 9) (List.drop 2 cs)):=r2
  rw[q5a.cells]at r2;exact ⟨⟨x0,x1,x2⟩,(qca (off:=0) rfl r0 (qca (off:=1) rfl r1 (qca (off:=2) rfl r2 (jDa hl2)))),⟨o0,o1,o2⟩,by simp only[List.map,Rows.uptoBulk,Rows.uptoBulkAll,zNa.bk];omega⟩⟩
theorem J6a:yBa prog 80 2 zka.pc zka.ok zka.bk:=⟨by kernel_rfl,fun _=>rfl,fun {H enc W fuel cs d} h=>by
 obtain ⟨xs,n,_,rfl,hl,hlen,hf⟩:=DataW.trod_struct kIa.u h;have hl2:cs.length=2:=hl.trans (by kernel_rfl)
 match xs,hlen with
 | [y0,y1],_=>
  obtain ⟨x0,r0,o0,b0⟩:=q5a.op (show _=some y0 from hf 0 _ rfl)
  replace r0:RelC W _ (List.take (prog.cellsOf 9) (List.drop 0 cs)):=r0
  rw[q5a.cells]at r0;obtain ⟨x1,r1,o1,b1⟩:=q5a.op (show _=some y1 from hf 1 _ rfl)
  replace r1:RelC W _ (List.take (prog.cellsOf 9) (List.drop 1 cs)):=r1
  rw[q5a.cells]at r1;exact ⟨⟨x0,x1⟩,(qca (off:=0) rfl r0 (qca (off:=1) rfl r1 (jDa hl2))),⟨o0,o1⟩,by simp only[List.map,Rows.uptoBulk,Rows.uptoBulkAll,zka.bk];omega⟩⟩
theorem Z4a:yBa prog 26 1 (cL zka.pc) (okL zka.ok) (bkL zka.bk):=VKa J6a rfl z8a.u (by kernel_rfl)
theorem Z5a:yBa prog 28 2 zHa.pc zHa.ok zHa.bk:=⟨by kernel_rfl,fun _=>rfl,fun {H enc W fuel cs d} h=>by
 obtain ⟨xs,n,_,rfl,hl,hlen,hf⟩:=DataW.trod_struct qBa.u h;have hl2:cs.length=2:=hl.trans (by kernel_rfl)
 match xs,hlen with
 | [y0,y1],_=>
  obtain ⟨x0,r0,o0,b0⟩:=Z4a.op (show _=some y0 from hf 0 _ rfl)
  replace r0:RelC W _ (List.take (prog.cellsOf 26) (List.drop 0 cs)):=r0
  rw[Z4a.cells]at r0;obtain ⟨x1,r1,o1,b1⟩:=W7a.op (show _=some y1 from hf 1 _ rfl)
  replace r1:RelC W _ (List.take (prog.cellsOf 22) (List.drop 1 cs)):=r1
  rw[W7a.cells]at r1;exact ⟨⟨x0,x1⟩,(qca (off:=0) rfl r0 (qca (off:=1) rfl r1 (jDa hl2))),⟨o0,o1⟩,by simp only[List.map,Rows.uptoBulk,Rows.uptoBulkAll,zHa.bk];omega⟩⟩
theorem V0a:yBa prog 30 5 kia.pc kia.ok kia.bk:=⟨by kernel_rfl,fun _=>rfl,fun {H enc W fuel cs d} h=>by
 obtain ⟨xs,n,_,rfl,hl,hlen,hf⟩:=DataW.trod_struct kPa.u h;have hl2:cs.length=5:=hl.trans (by kernel_rfl)
 match xs,hlen with
 | [y0,y1],_=>
  obtain ⟨x0,r0,o0,b0⟩:=Zka.op (show _=some y0 from hf 0 _ rfl)
  replace r0:RelC W _ (List.take (prog.cellsOf 25) (List.drop 0 cs)):=r0
  rw[Zka.cells]at r0;obtain ⟨x1,r1,o1,b1⟩:=Z5a.op (show _=some y1 from hf 1 _ rfl)
  replace r1:RelC W _ (List.take (prog.cellsOf 28) (List.drop 3 cs)):=r1
  rw[Z5a.cells]at r1;exact ⟨⟨x0,x1⟩,(qca (off:=0) rfl r0 (qca (off:=3) rfl r1 (jDa hl2))),⟨o0,o1⟩,by simp only[List.map,Rows.uptoBulk,Rows.uptoBulkAll,kia.bk];omega⟩⟩
theorem Vla:yBa prog 31 1 (cL cI) (okL ok64) (bkL (fun _=>1)):=VKa Z3a rfl ZMa.u (by kernel_rfl)
theorem Z6a:yBa prog 33 3 zwa.pc zwa.ok zwa.bk:=⟨by kernel_rfl,fun _=>rfl,fun {H enc W fuel cs d} h=>by
 obtain ⟨xs,n,_,rfl,hl,hlen,hf⟩:=DataW.trod_struct Z2a.u h;have hl2:cs.length=3:=hl.trans (by kernel_rfl)
 match xs,hlen with
 | [y0,y1,y2],_=>
  obtain ⟨x0,r0,o0,b0⟩:=Z3a.op (show _=some y0 from hf 0 _ rfl)
  replace r0:RelC W _ (List.take (prog.cellsOf 3) (List.drop 0 cs)):=r0
  rw[Z3a.cells]at r0;obtain ⟨x1,r1,o1,b1⟩:=q5a.op (show _=some y1 from hf 1 _ rfl)
  replace r1:RelC W _ (List.take (prog.cellsOf 9) (List.drop 1 cs)):=r1
  rw[q5a.cells]at r1;obtain ⟨x2,r2,o2,b2⟩:=Vla.op (show _=some y2 from hf 2 _ rfl)
  replace r2:RelC W _ (List.take (prog.cellsOf 31) (List.drop 2 cs)):=r2
  rw[Vla.cells]at r2;exact ⟨⟨x0,x1,x2⟩,(qca (off:=0) rfl r0 (qca (off:=1) rfl r1 (qca (off:=2) rfl r2 (jDa hl2)))),⟨o0,o1,o2⟩,by simp only[List.map,Rows.uptoBulk,Rows.uptoBulkAll,zwa.bk];omega⟩⟩
theorem KMa:yBa prog 35 11 zea.pc zea.ok zea.bk:=⟨by kernel_rfl,fun _=>rfl,fun {H enc W fuel cs d} h=>by
 obtain ⟨xs,n,_,rfl,hl,hlen,hf⟩:=DataW.trod_struct k5a.u h;have hl2:cs.length=11:=hl.trans (by kernel_rfl)
 match xs,hlen with
 | [y0,y1,y2,y3,y4],_=>
  obtain ⟨x0,r0,o0,b0⟩:=Z3a.op (show _=some y0 from hf 0 _ rfl)
  replace r0:RelC W _ (List.take (prog.cellsOf 3) (List.drop 0 cs)):=r0
  rw[Z3a.cells]at r0;obtain ⟨x1,r1,o1,b1⟩:=Z3a.op (show _=some y1 from hf 1 _ rfl)
  replace r1:RelC W _ (List.take (prog.cellsOf 3) (List.drop 1 cs)):=r1
  rw[Z3a.cells]at r1;obtain ⟨x2,r2,o2,b2⟩:=V0a.op (show _=some y2 from hf 2 _ rfl)
  replace r2:RelC W _ (List.take (prog.cellsOf 30) (List.drop 2 cs)):=r2
  rw[V0a.cells]at r2;obtain ⟨x3,r3,o3,b3⟩:=Z6a.op (show _=some y3 from hf 3 _ rfl)
  replace r3:RelC W _ (List.take (prog.cellsOf 33) (List.drop 7 cs)):=r3
  rw[Z6a.cells]at r3;obtain ⟨x4,r4,o4,b4⟩:=Vla.op (show _=some y4 from hf 4 _ rfl)
  replace r4:RelC W _ (List.take (prog.cellsOf 31) (List.drop 10 cs)):=r4
  rw[Vla.cells]at r4;exact ⟨⟨x0,x1,x2,x3,x4⟩,(qca (off:=0) rfl r0 (qca (off:=1) rfl r1 (qca (off:=2) rfl r2 (qca (off:=7) rfl r3 (qca (off:=10) rfl r4 (jDa hl2)))))),⟨o0,o1,o2,o3,o4⟩,by simp only[List.map,Rows.uptoBulk,Rows.uptoBulkAll,zea.bk];omega⟩⟩
theorem V1a:yBa prog 45 1 (cL zea.pc) (okL zea.ok) (bkL zea.bk):=VKa KMa rfl kQa.u (by kernel_rfl)
def R_In(a0:Int)(a1:Int)(a2:Int):Option Bool:=
 ((bif decide (a1<=a0) then some (decide (a0<=a2)) else some false):Option Bool).bind fun (j1:Bool)=>some j1
def R_At(a0:Int)(a1:Int):Option zsa:=
 some ((zsa.mk a0 a1))
def zoa(a0:Int)(a1:Int):Option zsa:=
 some ((zsa.mk a0 a1))
def kna:Option zsa:=
 some ((zsa.mk 0 0))
def z0a(a0:zsa):Option Bool:=
 some ((a0.Code !=0))
def qMa(a0:Int):Option Bool:=
 ((bif decide ((-68719476736)<=a0) then some (decide (a0<=68719476736)) else some false):Option Bool).bind fun (j1:Bool)=>some j1
def v2a(a0:UInt8):Option Bool:=
 ((bif decide (97<=(a0.toNat:Int)) then (bif decide ((a0.toNat:Int)<=122) then some true else (bif decide (65<=(a0.toNat:Int)) then (bif decide ((a0.toNat:Int)<=90) then some true else (bif decide (48<=(a0.toNat:Int)) then some (decide ((a0.toNat:Int)<=57)) else some false)) else (bif decide (48<=(a0.toNat:Int)) then some (decide ((a0.toNat:Int)<=57)) else some false))) else (bif decide (65<=(a0.toNat:Int)) then (bif decide ((a0.toNat:Int)<=90) then some true else (bif decide (48<=(a0.toNat:Int)) then some (decide ((a0.toNat:Int)<=57)) else some false)) else (bif decide (48<=(a0.toNat:Int)) then some (decide ((a0.toNat:Int)<=57)) else some false))):Option Bool).bind fun (j1:Bool)=>some j1
def qCa(a0:List Int)(s1:Int):Option (Step Int (Unit ⊕ Bool)):=
 (bif decide (s1 < (a0.length:Int)) then (idx a0 s1).bind fun v7=>(qMa v7).bind fun v9=>(bif (!v9) then some (.out (.inr false)) else some (.cont (w64 (s1+1)))) else some (.out (.inl (()))))
noncomputable def yqa(a0:List Int):Option Bool:=
 (iter (qCa a0) 0).bind fun o=>match o with | .inl b2=>some true | .inr b3=>some b3
def wDa(a0:List UInt8)(a1:List UInt8):Option Bool:=
 some ((a0==a1))
def qla(a0:List UInt8)(a1:List UInt8):Option Bool:=
 ((bif decide ((a1.length:Int)<=(a0.length:Int)) then (cut a0 0 ((a1.length:Int))).bind fun v3=>(wDa v3 a1).bind fun v5=>some v5 else some false):Option Bool).bind fun (j1:Bool)=>some j1
def kja(s:Str)(c:UInt8):Option Int:=some (Lib.indexByte s c)
def k8a(s t:Str):Option Bool:=if s.length < 4294967281 then some (Lib.contains s t) else none
def vYa(s t:Str):Option (Str × Str × Bool):=if s.length < 4294967281 then some (Lib.cut s t) else none
def kWa(a0:Int):Option Bool:=
 ((bif decide (0<=a0) then some (decide (a0 < 55296)) else some false):Option Bool).bind fun (j1:Bool)=>(bif j1 then some true else ((bif decide (57343 < a0) then some (decide (a0<=1114111)) else some false):Option Bool).bind fun (j4:Bool)=>(bif j4 then some true else some false))
def qHa(a0:Str)(s7:Nat):Option (Step Nat (Unit ⊕ Int)):=
 (bif decide (s7 < a0.length) then (bif ((Z1a a0 s7)==65533) then some (.out (.inr (((s7:Nat):Int)))) else some (.cont (s7+y6a a0 s7))) else some (.out (.inl (()))))
def w4a(a0:Str)(a1:Int)(j23:Int × Int)(s36:Int):Option (Step Int Unit):=
 (bif decide (s36 < (((wLa a1)).length:Int)) then (idx a0 ((w64 (j23.2 - s36)))).bind fun v40=>(idx ((wLa a1)) ((w64 (j23.1 - s36)))).bind fun v42=>(bif ((v40.toNat:Int) !=(v42.toNat:Int)) then none else some (.cont (w64 (s36+1)))) else some (.out (())))
noncomputable def qIa(a0:Str)(a1:Int)(j23:Int × Int):Option (Step Int (Unit ⊕ Int)):=
 (iter (w4a a0 a1 j23) 1).bind fun b37=>some (.out (.inr ((w64 (j23.2 - j23.1)))))
noncomputable def qJa(a0:Str)(a1:Int)(s17:Int):Option (Step Int (Unit ⊕ Int)):=
 (bif decide (s17 < (a0.length:Int)) then (idx a0 s17).bind fun v24=>(idx ((wLa a1)) ((w64 ((((wLa a1)).length:Int) - 1)))).bind fun v26=>(bif ((v24.toNat:Int) !=(v26.toNat:Int)) then (cut a0 ((w64 (s17+1))) ((a0.length:Int))).bind fun v29=>(idx ((wLa a1)) ((w64 ((((wLa a1)).length:Int) - 1)))).bind fun v31=>(kja v29 v31).bind fun v33=>(bif decide (v33 < 0) then some (.out (.inr ((-1)))) else (qIa a0 a1 ((w64 ((((wLa a1)).length:Int) - 1)),(w64 (s17+(w64 (v33+1))))))) else (qIa a0 a1 ((w64 ((((wLa a1)).length:Int) - 1)),s17))) else some (.out (.inl (()))))
noncomputable def kJa(a0:Str)(a1:Int):Option Int:=
 ((bif decide (0<=a1) then some (decide (a1 < 128)) else some false):Option Bool).bind fun (j1:Bool)=>(bif j1 then (kja a0 ((toU8 a1))).bind fun v4=>some v4 else (bif (a1==65533) then (iter (qHa a0) 0).bind (Sum.elim (fun b8=>some ((-1))) (fun b9=>some b9)) else (kWa a1).bind fun v14=>(bif (!v14) then some ((-1)) else (iter (qJa a0 a1) ((w64 ((((wLa a1)).length:Int) - 1)))).bind (Sum.elim (fun b18=>some ((-1))) (fun b19=>some b19)))))
def z9a(a0:Int):Option Bool:=
 some (decide (8 < a0))
noncomputable def qKa(a0:Str)(a1:Str)(s12:Nat):Option (Step Nat (Unit ⊕ Int)):=
 (bif decide (s12 < a0.length) then (kJa a1 ((Z1a a0 s12))).bind fun v18=>(bif decide (0<=v18) then some (.out (.inr (((s12:Nat):Int)))) else some (.cont (s12+y6a a0 s12))) else some (.out (.inl (()))))
noncomputable def vFa(a0:Str)(a1:Str):Option Int:=
 (bif (a1==([]:Str)) then some ((-1)) else (bif ((a1.length:Int)==1) then (idx a1 0).bind fun v3=>((bif decide (128<=(v3.toNat:Int)) then some 65533 else some ((v3.toNat:Int))):Option Int).bind fun (j5:Int)=>(kJa a0 j5).bind fun v7=>some v7 else (z9a ((a0.length:Int))).bind fun v9=>(bif v9 then none else (iter (qKa a0 a1) 0).bind (Sum.elim (fun b13=>some ((-1))) (fun b14=>some b14)))))
def W8a(t:Str):Bool:=t.all fun c=>decide (c.toNat < 128)
def qra(s t:Str):Option Int:=if s.length < 4294967281/\t.length < 4294967281/\2<=t.length/\W8a t=true then some (Lib.indexAny s t) else none
def kwa(a0:Str)(a1:Str):Option Bool:=
 ((bif decide ((a1.length:Int)<=(a0.length:Int)) then (cut a0 0 ((a1.length:Int))).bind fun v3=>some ((v3==a1)) else some false):Option Bool).bind fun (j1:Bool)=>some j1
def k0a(a0:Str)(a1:Str):Option Bool:=
 (kwa a0 a1).bind fun v1=>some v1
def kxa(a0:Str)(a1:Str):Option Bool:=
 ((bif decide ((a1.length:Int)<=(a0.length:Int)) then (cut a0 ((w64 ((a0.length:Int) - (a1.length:Int)))) ((a0.length:Int))).bind fun v3=>some ((v3==a1)) else some false):Option Bool).bind fun (j1:Bool)=>some j1
def k1a(a0:Str)(a1:Str):Option Bool:=
 (kxa a0 a1).bind fun v1=>some v1
def qxa(a0:Str)(s5:Int):Option (Step Int (Unit ⊕ Unit)):=
 (bif decide (s5 < (a0.length:Int)) then (idx a0 s5).bind fun v11=>((bif decide (97<=(v11.toNat:Int)) then (bif decide ((v11.toNat:Int)<=122) then some true else (bif decide (48<=(v11.toNat:Int)) then (bif decide ((v11.toNat:Int)<=57) then some true else (bif ((v11.toNat:Int)==45) then some true else some (((v11.toNat:Int)==46)))) else (bif ((v11.toNat:Int)==45) then some true else some (((v11.toNat:Int)==46))))) else (bif decide (48<=(v11.toNat:Int)) then (bif decide ((v11.toNat:Int)<=57) then some true else (bif ((v11.toNat:Int)==45) then some true else some (((v11.toNat:Int)==46)))) else (bif ((v11.toNat:Int)==45) then some true else some (((v11.toNat:Int)==46))))):Option Bool).bind fun (j13:Bool)=>(bif (!j13) then some (.out (.inr (()))) else some (.cont (w64 (s5+1)))) else some (.out (.inl (()))))
noncomputable def qNa(a0:Str):Option Bool:=
 ((bif (a0 !=([]:Str)) then (bif decide ((a0.length:Int)<=60) then ((iter (qxa a0) 0).bind (Sum.elim (fun b6=>some true) (fun b7=>some false)):Option Bool).bind fun (j4:Bool)=>(bif j4 then (k0a a0 (([46]:Str))).bind fun v26=>(bif (!v26) then (k1a a0 (([46]:Str))).bind fun v29=>(bif (!v29) then (k8a a0 (([46,46]:Str))).bind fun v32=>some ((!v32)) else some false) else some false) else some false) else some false) else some false):Option Bool).bind fun (j1:Bool)=>some j1
def qOa(v1:Str × Str × Bool)(s8:Int):Option (Step Int (Unit ⊕ Unit)):=
 (bif decide (s8 < (v1.1.length:Int)) then (idx v1.1 s8).bind fun v14=>((v2a v14).bind fun v17=>(bif v17 then some true else (kja (([45,95,46,43,61]:Str)) v14).bind fun v20=>some (decide (0<=v20))):Option Bool).bind fun (j16:Bool)=>(bif (!j16) then some (.out (.inr (()))) else some (.cont (w64 (s8+1)))) else some (.out (.inl (()))))
noncomputable def vca(a0:Str):Option (Str × Str × Bool):=
 (vYa a0 (([64]:Str))).bind fun v1=>((bif v1.2.2 then (bif (v1.1 !=([]:Str)) then (bif decide ((v1.1.length:Int)<=60) then ((iter (qOa v1) 0).bind (Sum.elim (fun b9=>some true) (fun b10=>some false)):Option Bool).bind fun (j7:Bool)=>(bif j7 then (qNa v1.2.1).bind fun v24=>some v24 else some false) else some false) else some false) else some false):Option Bool).bind fun (j3:Bool)=>some ((v1.1,v1.2.1,j3))
noncomputable def qsa(a0:Str):Option Bool:=
 (vca a0).bind fun v1=>some v1.2.2
def wea(a0:Str)(s5:Int):Option (Step Int (Unit ⊕ Unit)):=
 (bif decide (s5 < (a0.length:Int)) then (idx a0 s5).bind fun v11=>((v2a v11).bind fun v14=>(bif v14 then some true else (bif ((v11.toNat:Int)==45) then some true else (bif ((v11.toNat:Int)==95) then some true else some (((v11.toNat:Int)==46))))):Option Bool).bind fun (j13:Bool)=>(bif (!j13) then some (.out (.inr (()))) else some (.cont (w64 (s5+1)))) else some (.out (.inl (()))))
noncomputable def y8a(a0:Str):Option Bool:=
 ((bif (a0 !=([]:Str)) then (bif decide ((a0.length:Int)<=60) then ((iter (wea a0) 0).bind (Sum.elim (fun b6=>some true) (fun b7=>some false)):Option Bool).bind fun (j4:Bool)=>some j4 else some false) else some false):Option Bool).bind fun (j1:Bool)=>some j1
def vsa(a0:Int):Option Bool:=
 ((bif decide (0<=a0) then some (decide (a0<=7)) else some false):Option Bool).bind fun (j1:Bool)=>some j1
def kXa(v7:zba)(v19:List zba)(s22:Int):Option (Step Int (Unit ⊕ Int)):=
 (bif decide (s22 < (v19.length:Int)) then (idx v19 s22).bind fun v28=>(bif (v28.Address==v7.Address) then some (.out (.inr s22)) else some (.cont (w64 (s22+1)))) else some (.out (.inl (()))))
noncomputable def qqa(a0:List zba)(s1:Int):Option (Step Int (Unit ⊕ zsa)):=
 (bif decide (s1 < (a0.length:Int)) then (idx a0 s1).bind fun v7=>(qsa v7.Address).bind fun v9=>(bif (!v9) then (zoa 10 s1).bind fun v12=>some (.out (.inr v12)) else (vsa v7.Notify).bind fun v14=>(bif (!v14) then (zoa 3 s1).bind fun v17=>some (.out (.inr v17)) else (cut a0 0 s1).bind fun v19=>((iter (kXa v7 v19) 0).bind (Sum.elim (fun b23=>some ((-1))) (fun b24=>some b24)):Option Int).bind fun (j21:Int)=>(bif decide (0<=j21) then (zoa 7 s1).bind fun v32=>some (.out (.inr v32)) else some (.cont (w64 (s1+1)))))) else some (.out (.inl (()))))
noncomputable def qma(a0:List zba):Option zsa:=
 (iter (qqa a0) 0).bind (Sum.elim (fun b2=>(kna).bind fun v34=>some v34) (fun b3=>some b3))
noncomputable def qPa(a0:zNa):Option zsa:=
 ((bif (a0.From !=([]:Str)) then (qsa a0.From).bind fun v3=>some ((!v3)) else some false):Option Bool).bind fun (j1:Bool)=>(bif j1 then (zoa 10 ((-10))).bind fun v6=>some v6 else ((bif decide ((a0.To.length:Int) < 1) then some true else some (decide (60 < (a0.To.length:Int)))):Option Bool).bind fun (j8:Bool)=>(bif j8 then (zoa 2 ((-11))).bind fun v11=>some v11 else ((bif (a0.Id !=([]:Str)) then (y8a a0.Id).bind fun v15=>some ((!v15)) else some false):Option Bool).bind fun (j13:Bool)=>(bif j13 then (zoa 10 ((-12))).bind fun v18=>some v18 else (qma a0.To).bind fun v20=>some v20)))
def kGa(a0:Str)(a1:Str):Option Bool:=
 (qra a0 a1).bind fun v1=>some (decide (0<=v1))
def wQa(a0:Str)(s5:Int):Option (Step Int (Unit ⊕ Unit)):=
 (bif decide (s5 < (a0.length:Int)) then (idx a0 s5).bind fun v11=>((bif decide (33<=(v11.toNat:Int)) then (bif decide ((v11.toNat:Int)<=126) then some (((v11.toNat:Int) !=58)) else some false) else some false):Option Bool).bind fun (j13:Bool)=>(bif (!j13) then some (.out (.inr (()))) else some (.cont (w64 (s5+1)))) else some (.out (.inl (()))))
noncomputable def Zla(a0:Str):Option Bool:=
 ((bif (a0 !=([]:Str)) then (bif decide ((a0.length:Int)<=60) then ((iter (wQa a0) 0).bind (Sum.elim (fun b6=>some true) (fun b7=>some false)):Option Bool).bind fun (j4:Bool)=>some j4 else some false) else some false):Option Bool).bind fun (j1:Bool)=>some j1
def Zma(a0:Str):Option Bool:=
 (kGa a0 (([13,10,0]:Str))).bind fun v1=>some v1
def vta(a0:UInt8):Option Bool:=
 ((bif ((a0.toNat:Int)==32) then some true else some (((a0.toNat:Int)==9))):Option Bool).bind fun (j1:Bool)=>some j1
def y9a(a0:Str):Option Bool:=
 ((Zma a0).bind fun v2=>(bif (!v2) then (bif (a0==([]:Str)) then some true else (idx a0 0).bind fun v6=>(vta v6).bind fun v8=>(bif (!v8) then (idx a0 ((w64 ((a0.length:Int) - 1)))).bind fun v11=>(vta v11).bind fun v13=>some ((!v13)) else some false)) else some false):Option Bool).bind fun (j1:Bool)=>some j1
def qUa(s1:Int × Int)(j5:Int):Option (Step (Int × Int) Int):=
 some (.cont (j5,(w64 (s1.2+1))))
def w9a(a0:Str)(s1:Int × Int):Option (Step (Int × Int) Int):=
 (bif decide (s1.2 < (a0.length:Int)) then ((idx a0 s1.2).bind fun v7=>(vta v7).bind fun v9=>(bif (!v9) then some true else (idx a0 ((w64 (s1.2 - 1)))).bind fun v12=>(vta v12).bind fun v14=>some v14):Option Bool).bind fun (j6:Bool)=>(bif j6 then (qUa s1 s1.1) else ((bif decide (0 < s1.1) then some (decide (78 < s1.2)) else some false):Option Bool).bind fun (j17:Bool)=>(bif j17 then some (.out s1.1) else (qUa s1 s1.2))) else some (.out s1.1))
noncomputable def jaa(a0:Str)(a1:Int):Option Int:=
 (iter (w9a a0) ((0,(max a1 1)))).bind fun b2=>some b2
noncomputable def wRa(s18:Str × Int × (List Str)):Option (Step (Str × Int × (List Str)) (Str × (List Str))):=
 (bif decide (78 < (s18.1.length:Int)) then (jaa s18.1 s18.2.1).bind fun v22=>(bif (v22==0) then some (.out ((s18.1,s18.2.2))) else (cut s18.1 0 v22).bind fun v25=>(app 8796093022208 s18.2.2 (([v25]:List Str))).bind fun v27=>(cut s18.1 v22 ((s18.1.length:Int))).bind fun v29=>some (.cont (v29,0,v27))) else some (.out ((s18.1,s18.2.2))))
def yOa(v31:List Str)(s34:Int):Option (Step Int (Unit ⊕ ((List Str) × zsa))):=
 (bif decide (s34 < (v31.length:Int)) then (idx v31 s34).bind fun v40=>(bif decide (998 < (v40.length:Int)) then (zoa 1 s34).bind fun v43=>some (.out (.inr (([],v43)))) else some (.cont (w64 (s34+1)))) else some (.out (.inl (()))))
noncomputable def jba(a0:Str)(a1:Str):Option ((List Str) × zsa):=
 (Zla a0).bind fun v1=>(bif (!v1) then (zoa 10 ((-1))).bind fun v4=>some (([],v4)) else (bif decide (4000 < (a1.length:Int)) then (zoa 1 ((-1))).bind fun v7=>some (([],v7)) else (y9a a1).bind fun v9=>(bif (!v9) then (zoa 11 ((-1))).bind fun v12=>some (([],v12)) else (cat a0 (([58,32]:Str))).bind fun v14=>(cat v14 a1).bind fun v16=>(iter (wRa) ((v16,(w64 ((a0.length:Int)+2)),([]:List Str)))).bind fun b19=>(app 8796093022208 b19.2 (([b19.1]:List Str))).bind fun v31=>(iter (yOa v31) 0).bind (Sum.elim (fun b35=>(kna).bind fun v45=>some ((v31,v45))) (fun b36=>some ((b36.1,b36.2)))))))
noncomputable def via(a0:List zka)(s4:Int):Option (Step Int (Unit ⊕ zsa)):=
 (bif decide (s4 < (a0.length:Int)) then (idx a0 s4).bind fun v10=>(jba v10.Name v10.Value).bind fun v12=>(z0a v12.2).bind fun v14=>(bif v14 then (zoa v12.2.Code s4).bind fun v17=>some (.out (.inr v17)) else some (.cont (w64 (s4+1)))) else some (.out (.inl (()))))
noncomputable def vua(a0:List zka):Option zsa:=
 (bif decide (60 < (a0.length:Int)) then (zoa 2 ((-1))).bind fun v2=>some v2 else (iter (via a0) 0).bind (Sum.elim (fun b5=>(kna).bind fun v19=>some v19) (fun b6=>some b6)))
def q6a(v7:(List Str) × zsa)(s9:Int × (List UInt8)):Option (Step (Int × (List UInt8)) (List UInt8)):=
 (bif decide (s9.1 < (v7.1.length:Int)) then (idx v7.1 s9.1).bind fun v13=>(app 140737488355328 s9.2 v13).bind fun v15=>(app 140737488355328 v15 (([(13:UInt8),(10:UInt8)]:List UInt8))).bind fun v17=>some (.cont ((w64 (s9.1+1)),v17)) else some (.out s9.2))
noncomputable def q7a(a0:zHa)(s1:Int × (List UInt8)):Option (Step (Int × (List UInt8)) (List UInt8)):=
 (bif decide (s1.1 < (a0.Fields.length:Int)) then (idx a0.Fields s1.1).bind fun v5=>(jba v5.Name v5.Value).bind fun v7=>(iter (q6a v7) ((0,s1.2))).bind fun b10=>some (.cont ((w64 (s1.1+1)),b10)) else some (.out s1.2))
noncomputable def wfa(a0:zHa):Option (List UInt8):=
 (iter (q7a a0) ((0,([]:List UInt8)))).bind fun b2=>(app 140737488355328 b2 (([(13:UInt8),(10:UInt8)]:List UInt8))).bind fun v19=>(app 140737488355328 v19 a0.Body).bind fun v21=>some v21
def wga(j7:Int × Int):Option (Step (Int × Int) (Unit ⊕ Int)):=
 some (.cont (j7.1,(w64 (j7.2+1))))
def vGa(a0:List UInt8)(s1:Int × Int):Option (Step (Int × Int) (Unit ⊕ Int)):=
 (bif decide (s1.2 < (a0.length:Int)) then (idx a0 s1.2).bind fun v8=>((bif ((v8.toNat:Int)==13) then (bif decide ((w64 (s1.2+1)) < (a0.length:Int)) then (idx a0 ((w64 (s1.2+1)))).bind fun v13=>some (((v13.toNat:Int)==10)) else some false) else some false):Option Bool).bind fun (j10:Bool)=>(bif j10 then (wga (0,(w64 (s1.2+1)))) else ((bif ((v8.toNat:Int)==13) then some true else some (((v8.toNat:Int)==10))):Option Bool).bind fun (j16:Bool)=>(bif j16 then some (.out (.inr 11)) else (bif decide (998 < (w64 (s1.1+1))) then some (.out (.inr 1)) else (wga ((w64 (s1.1+1)),s1.2))))) else some (.out (.inl (()))))
noncomputable def jca(a0:List UInt8):Option Int:=
 (iter (vGa a0) ((0,0))).bind (Sum.elim (fun b2=>some 0) (fun b3=>some b3))
noncomputable def wSa(a0:List UInt8):Option zsa:=
 (jca a0).bind fun v1=>(bif (v1==11) then (zoa 11 ((-5))).bind fun v4=>some v4 else (bif (v1==1) then (zoa 1 ((-6))).bind fun v7=>some v7 else (kna).bind fun v9=>some v9))
noncomputable def q8a(a0:zHa):Option zsa:=
 (vua a0.Fields).bind fun v1=>(z0a v1).bind fun v3=>(bif v3 then some v1 else (wfa a0).bind fun v6=>(bif decide (12000 < (v6.length:Int)) then (zoa 1 ((-4))).bind fun v9=>some v9 else (wSa a0.Body).bind fun v11=>some v11))
noncomputable def qDa(a0:kia):Option zsa:=
 (qPa a0.Envelope).bind fun v1=>(z0a v1).bind fun v3=>(bif v3 then some v1 else (q8a a0.Message).bind fun v6=>(z0a v6).bind fun v8=>(bif v8 then (zoa v6.Code ((-30))).bind fun v11=>some v11 else (kna).bind fun v13=>some v13))
def vRa(a0:zHa)(a1:zHa)(s4:Int):Option (Step Int (Unit ⊕ Bool)):=
 (bif decide (s4 < (a0.Fields.length:Int)) then (idx a0.Fields s4).bind fun v10=>(idx a1.Fields s4).bind fun v12=>(bif (!(qva [(v10.Name==v12.Name),(v10.Value==v12.Value)])) then some (.out (.inr false)) else some (.cont (w64 (s4+1)))) else some (.out (.inl (()))))
noncomputable def wha(a0:zHa)(a1:zHa):Option Bool:=
 ((bif ((a0.Fields.length:Int) !=(a1.Fields.length:Int)) then some true else some ((a0.Body !=a1.Body))):Option Bool).bind fun (j1:Bool)=>(bif j1 then some false else (iter (vRa a0 a1) 0).bind (Sum.elim (fun b5=>some true) (fun b6=>some b6)))
def yaa(a0:kia)(a1:kia)(s5:Int):Option (Step Int (Unit ⊕ Bool)):=
 (bif decide (s5 < (a0.Envelope.To.length:Int)) then (idx a0.Envelope.To s5).bind fun v11=>(idx a1.Envelope.To s5).bind fun v13=>(bif (!(qva [(v11.Address==v13.Address),(v11.Notify==v13.Notify)])) then some (.out (.inr false)) else some (.cont (w64 (s5+1)))) else some (.out (.inl (()))))
noncomputable def jda(a0:kia)(a1:kia):Option Bool:=
 ((bif (a0.Envelope.From !=a1.Envelope.From) then some true else (bif (a0.Envelope.Id !=a1.Envelope.Id) then some true else some (((a0.Envelope.To.length:Int) !=(a1.Envelope.To.length:Int))))):Option Bool).bind fun (j1:Bool)=>(bif j1 then some false else (iter (yaa a0 a1) 0).bind (Sum.elim (fun b6=>(wha a0.Message a1.Message).bind fun v16=>some v16) (fun b7=>some b7)))
noncomputable def kpa(a0:List zka):Option (List zka):=
 (nilE a0.isEmpty (some ([])) ((app 4398046511104 ([]:List zka) a0).bind fun v2=>some v2))
noncomputable def qea(a0:kia):Option kia:=
 ((nilE a0.Envelope.To.isEmpty (some ([])) ((app 5864062014805 ([]:List zba) a0.Envelope.To).bind fun v3=>some v3)):Option (List zba)).bind fun (j1:List zba)=>(kpa a0.Message.Fields).bind fun v5=>((nilE a0.Message.Body.isEmpty (some ([])) ((app 140737488355328 ([]:List UInt8) a0.Message.Body).bind fun v9=>some v9)):Option (List UInt8)).bind fun (j7:List UInt8)=>some ((kia.mk ((zNa.mk a0.Envelope.From j1 a0.Envelope.Id)) ((zHa.mk v5 j7))))
def dates_split(a0:Int)(a1:Int):Option (Int × Int):=
 (nz a1).bind fun v1=>(nz a1).bind fun v3=>(nz a1).bind fun v5=>some (((iQuo ((w64 (a0 - (iRem ((w64 ((iRem a0 a1)+a1))) a1)))) a1),(iRem ((w64 ((iRem a0 a1)+a1))) a1)))
def ksa(a0:List (List UInt8))(s1:Int × Int):Option (Step (Int × Int) Int):=
 (bif decide (s1.2 < (a0.length:Int)) then (idx a0 s1.2).bind fun v5=>(bif decide ((w64 (s1.1+(v5.length:Int))) < 0) then none else some (.cont ((w64 (s1.1+(v5.length:Int))),(w64 (s1.2+1))))) else some (.out s1.1))
def kta(a0:List (List UInt8))(s14:Int × (List UInt8)):Option (Step (Int × (List UInt8)) (List UInt8)):=
 (bif decide (s14.1 < (a0.length:Int)) then (idx a0 s14.1).bind fun v18=>(app 140737488355328 s14.2 v18).bind fun v20=>some (.cont ((w64 (s14.1+1)),v20)) else some (.out s14.2))
def kVa(a0:List (List UInt8))(s22:Int × (List UInt8)):Option (Step (Int × (List UInt8)) (List UInt8)):=
 (bif decide (s22.1 < (a0.length:Int)) then (idx a0 s22.1).bind fun v26=>(app 140737488355328 s22.2 v26).bind fun v28=>some (.cont ((w64 (s22.1+1)),v28)) else some (.out s22.2))
noncomputable def kRa(a0:List (List UInt8)):Option (List UInt8):=
 (iter (ksa a0) ((0,0))).bind fun b2=>(bif decide (b2 < 0) then none else (bif decide (0 < (w64 (b2 - (w64 (0 - 0))))) then (zrep 140737488355328 ((w64 (b2 - (w64 (0 - 0))))) ((0:UInt8):UInt8)).bind fun v10=>(cut v10 0 0).bind fun v12=>(iter (kta a0) ((0,v12))).bind fun b15=>some b15 else (iter (kVa a0) ((0,([]:List UInt8)))).bind fun b23=>some b23))
def KNa(a0:List Int)(a1:List Int)(s2:Int):Option (Step Int (Unit ⊕ Bool)):=
 (bif decide (s2 < (a0.length:Int)) then (idx a0 s2).bind fun v8=>(idx a1 s2).bind fun v10=>(bif (v8 !=v10) then some (.out (.inr false)) else some (.cont (w64 (s2+1)))) else some (.out (.inl (()))))
noncomputable def W9a(a0:List Int)(a1:List Int):Option Bool:=
 (bif ((a0.length:Int) !=(a1.length:Int)) then some false else (iter (KNa a0 a1) 0).bind (Sum.elim (fun b3=>some true) (fun b4=>some b4)))
def yra(a0:List Str)(s1:Int × (List zba)):Option (Step (Int × (List zba)) (List zba)):=
 (bif decide (s1.1 < (a0.length:Int)) then (idx a0 s1.1).bind fun v5=>(app 5864062014805 s1.2 (([(zba.mk v5 1)]:List zba))).bind fun v7=>some (.cont ((w64 (s1.1+1)),v7)) else some (.out s1.2))
noncomputable def KOa(a0:List Str):Option kia:=
 (iter (yra a0) ((0,([]:List zba)))).bind fun b2=>some ((kia.mk ((zNa.mk (([115,64,120]:Str)) b2 (([55]:Str)))) ((zHa.mk ([]) ([])))))
def q9a(s2:Bool × Int)(j8:Bool):Option (Step (Bool × Int) (Bool ⊕ Bool)):=
 some (.cont (j8,(w64 (s2.2+1))))
def qta(a0:zca)(s2:Bool × Int):Option (Step (Bool × Int) (Bool ⊕ Bool)):=
 (bif decide (s2.2 < (a0.To.length:Int)) then (idx a0.To s2.2).bind fun v9=>((idx a0.Mail.Envelope.To s2.2).bind fun v12=>(bif (!(qva [(v9.Recipient.Address==v12.Address),(v9.Recipient.Notify==v12.Notify)])) then some true else (bif (v9.Result !=0) then (bif (v9.Result !=1) then (bif (v9.Result !=3) then some true else (bif v9.Busy then some ((v9.Result !=0)) else some false)) else (bif v9.Busy then some ((v9.Result !=0)) else some false)) else (bif v9.Busy then some ((v9.Result !=0)) else some false))):Option Bool).bind fun (j11:Bool)=>(bif j11 then some (.out (.inr false)) else (bif s2.1 then (q9a s2 true) else (q9a s2 (v9.Result==0)))) else some (.out (.inl s2.1)))
noncomputable def qVa(a0:zca):Option Bool:=
 (bif ((a0.To.length:Int) !=(a0.Mail.Envelope.To.length:Int)) then some false else (iter (qta a0) ((false,0))).bind (Sum.elim (fun b3=>some b3) (fun b4=>some b4)))
noncomputable def qia(a0:zva)(s9:Int × Int):Option (Step (Int × Int) (Unit ⊕ zsa)):=
 (bif decide (s9.2 < (a0.Entries.length:Int)) then (idx a0.Entries s9.2).bind fun v15=>(qDa v15.Mail).bind fun v17=>(z0a v17).bind fun v19=>(bif v19 then (zoa v17.Code s9.2).bind fun v22=>some (.out (.inr v22)) else ((bif decide (v15.Id<=s9.1) then some true else some (decide (a0.Next<=v15.Id))):Option Bool).bind fun (j24:Bool)=>(bif j24 then (zoa 19 s9.2).bind fun v27=>some (.out (.inr v27)) else ((qMa v15.Since).bind fun v30=>(bif (!v30) then some true else (qMa v15.Due).bind fun v33=>(bif (!v33) then some true else (bif decide (v15.Tries < 0) then some true else some (decide (1000000 < v15.Tries))))):Option Bool).bind fun (j29:Bool)=>(bif j29 then (zoa 3 s9.2).bind fun v38=>some (.out (.inr v38)) else (qVa v15).bind fun v40=>(bif (!v40) then (zoa 5 s9.2).bind fun v43=>some (.out (.inr v43)) else some (.cont (v15.Id,(w64 (s9.2+1)))))))) else some (.out (.inl (()))))
noncomputable def vda(a0:zva):Option zsa:=
 (bif decide (20 < (a0.Entries.length:Int)) then (zoa 2 ((-1))).bind fun v2=>some v2 else ((bif decide (a0.Next < 0) then some true else some (decide (1000000 < a0.Next))):Option Bool).bind fun (j4:Bool)=>(bif j4 then (zoa 3 ((-2))).bind fun v7=>some v7 else (iter (qia a0) (((-1),0))).bind (Sum.elim (fun b10=>(kna).bind fun v45=>some v45) (fun b11=>some b11))))
noncomputable def zWa(a0:List zca):Option (List zca):=
 (nilE a0.isEmpty (some ([])) ((app 879609302220 ([]:List zca) a0).bind fun v2=>some v2))
noncomputable def zLa(a0:List zga):Option (List zga):=
 (nilE a0.isEmpty (some ([])) ((app 3518437208883 ([]:List zga) a0).bind fun v2=>some v2))
noncomputable def wTa(v23:List zca)(s25:Int × Nat × (List zca)):Option (Step (Int × Nat × (List zca)) ((List zca) × Nat)):=
 (bif decide (s25.1 < (v23.length:Int)) then (idx s25.2.2 s25.1).bind fun v29=>(idx s25.2.2 s25.1).bind fun v31=>(qea v31.Mail).bind fun v33=>(W5a s25.2.1 s25.1).bind fun v35=>(idx s25.2.2 s25.1).bind fun v37=>(zLa v37.To).bind fun v39=>(idx s25.2.2 s25.1).bind fun v41=>(qmb s25.2.1 s25.1).bind fun v43=>(idx ((List.set s25.2.2 (Int.toNat s25.1) ((zca.mk v41.Id v33 v41.Since v41.Tries v41.Due v41.To)))) s25.1).bind fun v45=>some (.cont ((w64 (s25.1+1)),(s25.2.1+1),(List.set ((List.set s25.2.2 (Int.toNat s25.1) ((zca.mk v41.Id v33 v41.Since v41.Tries v41.Due v41.To)))) (Int.toNat s25.1) ((zca.mk v45.Id v45.Mail v45.Since v45.Tries v45.Due v39))))) else some (.out ((s25.2.2,s25.2.1))))
def v3a(a1:kia)(s49:Int × (List zga)):Option (Step (Int × (List zga)) (List zga)):=
 (bif decide (s49.1 < (a1.Envelope.To.length:Int)) then (idx a1.Envelope.To s49.1).bind fun v53=>(app 3518437208883 s49.2 (([(zga.mk v53 0 false)]:List zga))).bind fun v55=>some (.cont ((w64 (s49.1+1)),v55)) else some (.out s49.2))
noncomputable def Zna(a0:zva)(a1:kia)(a2:Int):Option (zva × Int × zsa):=
 (vda a0).bind fun v1=>(z0a v1).bind fun v3=>(bif v3 then some (((zva.mk ([]) 0),0,v1)) else (qDa a1).bind fun v6=>(z0a v6).bind fun v8=>(bif v8 then (zoa v6.Code ((-6))).bind fun v11=>some (((zva.mk ([]) 0),0,v11)) else (qMa a2).bind fun v13=>(bif (!v13) then (zoa 3 ((-7))).bind fun v16=>some (((zva.mk ([]) 0),0,v16)) else ((bif ((a0.Entries.length:Int)==20) then some true else some ((a0.Next==1000000))):Option Bool).bind fun (j18:Bool)=>(bif j18 then (zoa 2 ((-8))).bind fun v21=>some (((zva.mk ([]) 0),0,v21)) else (zWa a0.Entries).bind fun v23=>(iter (wTa v23) ((0,0,v23))).bind fun b26=>(qea a1).bind fun v47=>(iter (v3a a1) ((0,([]:List zga)))).bind fun b50=>(nall b26.2 (List.length b26.1)).bind fun v57=>(app 879609302220 b26.1 [(zca.mk a0.Next v47 a2 0 a2 b50)]).bind fun v59=>(kna).bind fun v61=>some (((zva.mk v59 ((w64 (a0.Next+1)))),a0.Next,v61))))))
noncomputable def vva(a0:Str):Option Str:=
 (vca a0).bind fun v1=>some v1.2.1
noncomputable def vea(v53:zca)(s55:Int × (List ((Int × Str) × Bool)) × (List (Str × Int))):Option (Step (Int × (List ((Int × Str) × Bool)) × (List (Str × Int))) ((List ((Int × Str) × Bool)) × (List (Str × Int)))):=
 (bif decide (s55.1 < (v53.To.length:Int)) then ((idx v53.To s55.1).bind fun v60=>(vva v60.Recipient.Address).bind fun v62=>((bif v60.Busy then some ((!(((mget s55.2.1 ((v53.Id,v62))).getD false)))) else some false):Option Bool).bind fun (j64:Bool)=>(bif j64 then some (((mput s55.2.1 ((v53.Id,v62)) true),(mput s55.2.2 v62 ((w64 (((mget s55.2.2 v62).getD 0)+1)))))) else some ((s55.2.1,s55.2.2))):Option ((List ((Int × Str) × Bool)) × (List (Str × Int)))).bind fun (j59:(List ((Int × Str) × Bool)) × (List (Str × Int)))=>some (.cont ((w64 (s55.1+1)),j59.1,j59.2)) else some (.out ((s55.2.1,s55.2.2))))
noncomputable def vNa(a0:zva)(s49:Int × (List ((Int × Str) × Bool)) × (List (Str × Int))):Option (Step (Int × (List ((Int × Str) × Bool)) × (List (Str × Int))) ((List ((Int × Str) × Bool)) × (List (Str × Int)))):=
 (bif decide (s49.1 < (a0.Entries.length:Int)) then (idx a0.Entries s49.1).bind fun v53=>(iter (vea v53) ((0,s49.2.1,s49.2.2))).bind fun b56=>some (.cont ((w64 (s49.1+1)),b56.1,b56.2)) else some (.out ((s49.2.1,s49.2.2))))
def vaa(a0:zva)(a1:zwa)(s7:Int):Option (Step Int (Unit ⊕ Int)):=
 (bif decide (s7 < (a0.Entries.length:Int)) then (idx a0.Entries s7).bind fun v13=>(bif (v13.Id==a1.Entry) then some (.out (.inr s7)) else some (.cont (w64 (s7+1)))) else some (.out (.inl (()))))
noncomputable def kUa(a1:zwa)(a2:Bool)(v19:zca)(s26:Int):Option (Step Int (Unit ⊕ (Int × zsa))):=
 (bif decide (s26 < (a1.To.length:Int)) then (idx a1.To s26).bind fun v32=>((bif decide (v32 < 0) then some true else (bif decide ((v19.To.length:Int)<=v32) then some true else (bif decide (0 < s26) then (idx a1.To ((w64 (s26 - 1)))).bind fun v38=>some (decide (v32<=v38)) else some false))):Option Bool).bind fun (j34:Bool)=>(bif j34 then (zoa 3 s26).bind fun v41=>some (.out (.inr ((0,v41)))) else (idx v19.To v32).bind fun v43=>(vva v43.Recipient.Address).bind fun v45=>(bif (v45 !=a1.Domain) then (zoa 5 s26).bind fun v48=>some (.out (.inr ((0,v48)))) else ((idx v19.To v32).bind fun v51=>(bif (v51.Result !=0) then some true else (idx v19.To v32).bind fun v54=>some ((v54.Busy !=a2))):Option Bool).bind fun (j50:Bool)=>(bif j50 then (zoa 8 s26).bind fun v57=>some (.out (.inr ((0,v57)))) else some (.cont (w64 (s26+1)))))) else some (.out (.inl (()))))
noncomputable def vHa(a0:zva)(a1:zwa)(a2:Bool):Option (Int × zsa):=
 (vda a0).bind fun v1=>(z0a v1).bind fun v3=>(bif v3 then some ((0,v1)) else ((iter (vaa a0 a1) 0).bind (Sum.elim (fun b8=>some ((-1))) (fun b9=>some b9)):Option Int).bind fun (j6:Int)=>(bif decide (j6 < 0) then (zoa 6 ((-3))).bind fun v17=>some ((0,v17)) else (idx a0.Entries j6).bind fun v19=>((bif ((a1.To.length:Int)==0) then some true else some (decide ((v19.To.length:Int) < (a1.To.length:Int)))):Option Bool).bind fun (j21:Bool)=>(bif j21 then (zoa 2 ((-4))).bind fun v24=>some ((0,v24)) else (iter (kUa a1 a2 v19) 0).bind (Sum.elim (fun b27=>(kna).bind fun v59=>some ((j6,v59))) (fun b28=>some ((b28.1,b28.2)))))))
noncomputable def KPa(v10:zca)(s12:Int × (List ((Int × Str) × Bool)) × (List (Str × Int))):Option (Step (Int × (List ((Int × Str) × Bool)) × (List (Str × Int))) ((List ((Int × Str) × Bool)) × (List (Str × Int)))):=
 (bif decide (s12.1 < (v10.To.length:Int)) then ((idx v10.To s12.1).bind fun v17=>(vva v17.Recipient.Address).bind fun v19=>((bif v17.Busy then some ((!(((mget s12.2.1 ((v10.Id,v19))).getD false)))) else some false):Option Bool).bind fun (j21:Bool)=>(bif j21 then some (((mput s12.2.1 ((v10.Id,v19)) true),(mput s12.2.2 v19 ((w64 (((mget s12.2.2 v19).getD 0)+1)))))) else some ((s12.2.1,s12.2.2))):Option ((List ((Int × Str) × Bool)) × (List (Str × Int)))).bind fun (j16:(List ((Int × Str) × Bool)) × (List (Str × Int)))=>some (.cont ((w64 (s12.1+1)),j16.1,j16.2)) else some (.out ((s12.2.1,s12.2.2))))
noncomputable def jJa(a0:zva)(s6:Int × (List ((Int × Str) × Bool)) × (List (Str × Int))):Option (Step (Int × (List ((Int × Str) × Bool)) × (List (Str × Int))) ((List ((Int × Str) × Bool)) × (List (Str × Int)))):=
 (bif decide (s6.1 < (a0.Entries.length:Int)) then (idx a0.Entries s6.1).bind fun v10=>(iter (KPa v10) ((0,s6.2.1,s6.2.2))).bind fun b13=>some (.cont ((w64 (s6.1+1)),b13.1,b13.2)) else some (.out ((s6.2.1,s6.2.2))))
noncomputable def jKa(v29:List zca)(s31:Int × Nat × (List zca)):Option (Step (Int × Nat × (List zca)) ((List zca) × Nat)):=
 (bif decide (s31.1 < (v29.length:Int)) then (idx s31.2.2 s31.1).bind fun v35=>(idx s31.2.2 s31.1).bind fun v37=>(qea v37.Mail).bind fun v39=>(W5a s31.2.1 s31.1).bind fun v41=>(idx s31.2.2 s31.1).bind fun v43=>(zLa v43.To).bind fun v45=>(idx s31.2.2 s31.1).bind fun v47=>(qmb s31.2.1 s31.1).bind fun v49=>(idx ((List.set s31.2.2 (Int.toNat s31.1) ((zca.mk v47.Id v39 v47.Since v47.Tries v47.Due v47.To)))) s31.1).bind fun v51=>some (.cont ((w64 (s31.1+1)),(s31.2.1+1),(List.set ((List.set s31.2.2 (Int.toNat s31.1) ((zca.mk v47.Id v39 v47.Since v47.Tries v47.Due v47.To)))) (Int.toNat s31.1) ((zca.mk v51.Id v51.Mail v51.Since v51.Tries v51.Due v45))))) else some (.out ((s31.2.2,s31.2.1))))
def wia(a1:zwa)(v1:Int × zsa)(b32:(List zca) × Nat)(s53:Int × (List zca)):Option (Step (Int × (List zca)) (List zca)):=
 (bif decide (s53.1 < (a1.To.length:Int)) then (idx a1.To s53.1).bind fun v57=>(idx s53.2 v1.1).bind fun v59=>(nown b32.2 v1.1).bind fun v61=>(idx s53.2 v1.1).bind fun v63=>(idx s53.2 v1.1).bind fun v65=>(idx v65.To v57).bind fun v67=>(idx s53.2 v1.1).bind fun v69=>(idx v69.To v57).bind fun v71=>some (.cont ((w64 (s53.1+1)),(List.set s53.2 (Int.toNat v1.1) ((zca.mk v69.Id v69.Mail v69.Since v69.Tries v69.Due ((List.set v69.To (Int.toNat v57) ((zga.mk v71.Recipient v71.Result true))))))))) else some (.out s53.2))
noncomputable def jea(a0:zva)(a1:zwa):Option (zva × zsa):=
 (vHa a0 a1 false).bind fun v1=>(z0a v1.2).bind fun v3=>(bif v3 then some (((zva.mk ([]) 0),v1.2)) else (iter (jJa a0) ((0,([]:List ((Int × Str) × Bool)),([]:List (Str × Int))))).bind fun b7=>((bif decide (2<=((mget b7.2 a1.Domain).getD 0)) then some true else some (((mget b7.1 ((a1.Entry,a1.Domain))).getD false))):Option Bool).bind fun (j24:Bool)=>(bif j24 then (zoa 8 ((-5))).bind fun v27=>some (((zva.mk ([]) 0),v27)) else (zWa a0.Entries).bind fun v29=>(iter (jKa v29) ((0,0,v29))).bind fun b32=>(iter (wia a1 v1 b32) ((0,b32.1))).bind fun b54=>(kna).bind fun v73=>some (((zva.mk b54 a0.Next),v73))))
def qya(a1:Int)(s17:Int × Int):Option (Step (Int × Int) Int):=
 ((bif decide (s17.2 < a1) then some (decide (s17.1 < 14400)) else some false):Option Bool).bind fun (j20:Bool)=>(bif j20 then some (.cont ((min ((w64 (2 * s17.1))) 14400),(w64 (s17.2+1)))) else some (.out s17.1))
noncomputable def jfa(a0:Int)(a1:Int)(a2:Int):Option (Int × Bool × zsa):=
 (yqa (([a0,a2]:List Int))).bind fun v1=>(bif (!v1) then (zoa 3 ((-2))).bind fun v4=>some ((0,false,v4)) else ((bif decide (a1 < 1) then some true else some (decide (1000000 < a1))):Option Bool).bind fun (j6:Bool)=>(bif j6 then (zoa 3 ((-3))).bind fun v9=>some ((0,false,v9)) else (bif decide (a2 < a0) then (zoa 19 ((-4))).bind fun v12=>some ((0,false,v12)) else (bif decide ((w64 (a0+345600))<=a2) then (kna).bind fun v15=>some ((0,false,v15)) else (iter (qya a1) ((60,1))).bind fun b18=>(kna).bind fun v23=>some (((min (min ((w64 (a2+b18))) ((w64 (a0+345600)))) 68719476736),true,v23))))))
def wja(a2:List Int)(s10:Int):Option (Step Int (Unit ⊕ Int)):=
 (bif decide (s10 < (a2.length:Int)) then (idx a2 s10).bind fun v16=>((bif decide (v16 < 1) then some true else some (decide (4 < v16))):Option Bool).bind fun (j18:Bool)=>(bif j18 then some (.out (.inr s10)) else some (.cont (w64 (s10+1)))) else some (.out (.inl (()))))
noncomputable def jLa(v34:List zca)(s36:Int × Nat × (List zca)):Option (Step (Int × Nat × (List zca)) ((List zca) × Nat)):=
 (bif decide (s36.1 < (v34.length:Int)) then (idx s36.2.2 s36.1).bind fun v40=>(idx s36.2.2 s36.1).bind fun v42=>(qea v42.Mail).bind fun v44=>(W5a s36.2.1 s36.1).bind fun v46=>(idx s36.2.2 s36.1).bind fun v48=>(zLa v48.To).bind fun v50=>(idx s36.2.2 s36.1).bind fun v52=>(qmb s36.2.1 s36.1).bind fun v54=>(idx ((List.set s36.2.2 (Int.toNat s36.1) ((zca.mk v52.Id v44 v52.Since v52.Tries v52.Due v52.To)))) s36.1).bind fun v56=>some (.cont ((w64 (s36.1+1)),(s36.2.1+1),(List.set ((List.set s36.2.2 (Int.toNat s36.1) ((zca.mk v52.Id v44 v52.Since v52.Tries v52.Due v52.To)))) (Int.toNat s36.1) ((zca.mk v56.Id v56.Mail v56.Since v56.Tries v56.Due v50))))) else some (.out ((s36.2.2,s36.2.1))))
def wka(a2:List Int)(s62:Int):Option (Step Int (Unit ⊕ Int)):=
 (bif decide (s62 < (a2.length:Int)) then (idx a2 s62).bind fun v68=>((bif (v68==2) then some true else some ((v68==4))):Option Bool).bind fun (j70:Bool)=>(bif j70 then some (.out (.inr s62)) else some (.cont (w64 (s62+1)))) else some (.out (.inl (()))))
def qWa(a1:zwa)(a2:List Int)(v1:Int × zsa)(b37:(List zca) × Nat)(j60:Bool × (List zca))(s90:Int × (List zla) × (List zca)):Option (Step (Int × (List zla) × (List zca)) ((List zla) × (List zca))):=
 (bif decide (s90.1 < (a1.To.length:Int)) then ((idx a1.To s90.1).bind fun v95=>(idx a2 s90.1).bind fun v97=>(nown b37.2 v1.1).bind fun v99=>(idx s90.2.2 v1.1).bind fun v101=>(idx s90.2.2 v1.1).bind fun v103=>(idx v103.To v95).bind fun v105=>(idx s90.2.2 v1.1).bind fun v107=>(idx v107.To v95).bind fun v109=>(((bif (v97==2) then some true else some ((v97==4))):Option Bool).bind fun (j112:Bool)=>(bif j112 then some j60.1 else some false):Option Bool).bind fun (j111:Bool)=>(bif j111 then some ((s90.2.1,(List.set s90.2.2 (Int.toNat v1.1) ((zca.mk v107.Id v107.Mail v107.Since v107.Tries v107.Due ((List.set v107.To (Int.toNat v95) ((zga.mk v109.Recipient v109.Result false))))))))) else (((bif (v97==2) then some true else some ((v97==4))):Option Bool).bind fun (j117:Bool)=>(bif j117 then some 3 else some v97):Option Int).bind fun (j116:Int)=>(nown b37.2 v1.1).bind fun v120=>(idx ((List.set s90.2.2 (Int.toNat v1.1) ((zca.mk v107.Id v107.Mail v107.Since v107.Tries v107.Due ((List.set v107.To (Int.toNat v95) ((zga.mk v109.Recipient v109.Result false)))))))) v1.1).bind fun v122=>(idx ((List.set s90.2.2 (Int.toNat v1.1) ((zca.mk v107.Id v107.Mail v107.Since v107.Tries v107.Due ((List.set v107.To (Int.toNat v95) ((zga.mk v109.Recipient v109.Result false)))))))) v1.1).bind fun v124=>(idx v124.To v95).bind fun v126=>(idx ((List.set s90.2.2 (Int.toNat v1.1) ((zca.mk v107.Id v107.Mail v107.Since v107.Tries v107.Due ((List.set v107.To (Int.toNat v95) ((zga.mk v109.Recipient v109.Result false)))))))) v1.1).bind fun v128=>(idx v128.To v95).bind fun v130=>(idx ((List.set ((List.set s90.2.2 (Int.toNat v1.1) ((zca.mk v107.Id v107.Mail v107.Since v107.Tries v107.Due ((List.set v107.To (Int.toNat v95) ((zga.mk v109.Recipient v109.Result false)))))))) (Int.toNat v1.1) ((zca.mk v128.Id v128.Mail v128.Since v128.Tries v128.Due ((List.set v128.To (Int.toNat v95) ((zga.mk v130.Recipient j116 v130.Busy)))))))) v1.1).bind fun v132=>(app 5864062014805 s90.2.1 (([(zla.mk v132.Id v95 j116)]:List zla))).bind fun v134=>some ((v134,(List.set ((List.set s90.2.2 (Int.toNat v1.1) ((zca.mk v107.Id v107.Mail v107.Since v107.Tries v107.Due ((List.set v107.To (Int.toNat v95) ((zga.mk v109.Recipient v109.Result false)))))))) (Int.toNat v1.1) ((zca.mk v128.Id v128.Mail v128.Since v128.Tries v128.Due ((List.set v128.To (Int.toNat v95) ((zga.mk v130.Recipient j116 v130.Busy)))))))))):Option ((List zla) × (List zca))).bind fun (j94:(List zla) × (List zca))=>some (.cont ((w64 (s90.1+1)),j94.1,j94.2)) else some (.out ((s90.2.1,s90.2.2))))
noncomputable def jga(a0:zva)(a1:zwa)(a2:List Int)(a3:Int):Option (zva × (List zla) × zsa):=
 (vHa a0 a1 true).bind fun v1=>(z0a v1.2).bind fun v3=>(bif v3 then some (((zva.mk ([]) 0),[],v1.2)) else (bif ((a2.length:Int) !=(a1.To.length:Int)) then (zoa 9 ((-6))).bind fun v7=>some (((zva.mk ([]) 0),[],v7)) else ((iter (wja a2) 0).bind (Sum.elim (fun b11=>some ((-1))) (fun b12=>some b12)):Option Int).bind fun (j9:Int)=>(bif decide (0<=j9) then (zoa 3 ((-6))).bind fun v22=>some (((zva.mk ([]) 0),[],v22)) else (qMa a3).bind fun v24=>(bif (!v24) then (zoa 3 ((-7))).bind fun v27=>some (((zva.mk ([]) 0),[],v27)) else (idx a0.Entries v1.1).bind fun v29=>(bif decide (a3 < v29.Since) then (zoa 19 ((-7))).bind fun v32=>some (((zva.mk ([]) 0),[],v32)) else (zWa a0.Entries).bind fun v34=>(iter (jLa v34) ((0,0,v34))).bind fun b37=>(idx b37.1 v1.1).bind fun v58=>(((iter (wka a2) 0).bind (Sum.elim (fun b63=>some ((-1))) (fun b64=>some b64)):Option Int).bind fun (j61:Int)=>(bif decide (0<=j61) then (idx b37.1 v1.1).bind fun v74=>(idx b37.1 v1.1).bind fun v76=>(idx ((List.set b37.1 (Int.toNat v1.1) ((zca.mk v76.Id v76.Mail v76.Since ((min ((w64 (v74.Tries+1))) 1000000)) v76.Due v76.To)))) v1.1).bind fun v78=>(idx ((List.set b37.1 (Int.toNat v1.1) ((zca.mk v76.Id v76.Mail v76.Since ((min ((w64 (v74.Tries+1))) 1000000)) v76.Due v76.To)))) v1.1).bind fun v80=>(jfa v78.Since v80.Tries a3).bind fun v82=>((bif v82.2.1 then (idx ((List.set b37.1 (Int.toNat v1.1) ((zca.mk v76.Id v76.Mail v76.Since ((min ((w64 (v74.Tries+1))) 1000000)) v76.Due v76.To)))) v1.1).bind fun v86=>(idx ((List.set b37.1 (Int.toNat v1.1) ((zca.mk v76.Id v76.Mail v76.Since ((min ((w64 (v74.Tries+1))) 1000000)) v76.Due v76.To)))) v1.1).bind fun v88=>some ((List.set ((List.set b37.1 (Int.toNat v1.1) ((zca.mk v76.Id v76.Mail v76.Since ((min ((w64 (v74.Tries+1))) 1000000)) v76.Due v76.To)))) (Int.toNat v1.1) ((zca.mk v88.Id v88.Mail v88.Since v88.Tries ((max v82.1 v86.Due)) v88.To)))) else some ((List.set b37.1 (Int.toNat v1.1) ((zca.mk v76.Id v76.Mail v76.Since ((min ((w64 (v74.Tries+1))) 1000000)) v76.Due v76.To))))):Option (List zca)).bind fun (j84:List zca)=>some ((v82.2.1,j84)) else some ((true,b37.1))):Option (Bool × (List zca))).bind fun (j60:Bool × (List zca))=>(iter (qWa a1 a2 v1 b37 j60) ((0,([]:List zla),j60.2))).bind fun b91=>((idx b91.2 v1.1).bind fun v137=>(qVa v137).bind fun v139=>(bif (!v139) then ((cut3 b91.2 v1.1 ((w64 (v1.1+1))) ((b91.2.length:Int))).bind fun v143=>(bif (v1.1==(w64 (v1.1+1))) then some b91.2 else (cut b91.2 0 v1.1).bind fun v146=>(cut b91.2 ((w64 (v1.1+1))) (b91.2.length:Int)).bind fun v148=>(shft b91.2 v1.1 ((w64 (v1.1+1)))).bind fun v150=>(VGa v150 (((((Int.toNat v1.1)+(b91.2.length - (Int.toNat ((w64 (v1.1+1)))))):Nat):Int)) ((b91.2.length:Int))).bind fun v152=>some ((List.take ((Int.toNat v1.1)+(b91.2.length - (Int.toNat ((w64 (v1.1+1)))))) ((clr0 v150 (Int.toNat (((((Int.toNat v1.1)+(b91.2.length - (Int.toNat ((w64 (v1.1+1)))))):Nat):Int))) ((zca.mk 0 ((kia.mk ((zNa.mk (([]:Str)) ([]) (([]:Str)))) ((zHa.mk ([]) ([]))))) 0 0 0 ([])))))))):Option (List zca)).bind fun (j142:List zca)=>some j142 else some b91.2):Option (List zca)).bind fun (j136:List zca)=>(kna).bind fun v154=>some (((zva.mk j136 a0.Next),b91.1,v154)))))))
def Kma(a1:zwa)(v4:Int × zsa)(b21:(List zca) × Nat)(s32:Int × (List zca)):Option (Step (Int × (List zca)) (List zca)):=
 (bif decide (s32.1 < (a1.To.length:Int)) then (idx s32.2 v4.1).bind fun v36=>(nown b21.2 v4.1).bind fun v38=>(idx s32.2 v4.1).bind fun v40=>(idx a1.To s32.1).bind fun v42=>(idx s32.2 v4.1).bind fun v44=>(idx v44.To v42).bind fun v46=>(idx s32.2 v4.1).bind fun v48=>(idx v48.To v42).bind fun v50=>some (.cont ((w64 (s32.1+1)),(List.set s32.2 (Int.toNat v4.1) ((zca.mk v48.Id v48.Mail v48.Since v48.Tries v48.Due ((List.set v48.To (Int.toNat v42) ((zga.mk v50.Recipient v50.Result true))))))))) else some (.out s32.2))
def yYa(a1:zwa)(a2:List Int)(j3:Int × Int × Int)(b52:(List zca) × Nat)(j63:Int × (List zca))(s88:Int × (List zla) × (List zca)):Option (Step (Int × (List zla) × (List zca)) ((List zla) × (List zca))):=
 (bif decide (s88.1 < (a1.To.length:Int)) then ((idx a2 s88.1).bind fun v93=>(((bif (v93==2) then some true else some ((v93==4))):Option Bool).bind fun (j96:Bool)=>(bif j96 then some j63.1 else some v93):Option Int).bind fun (j95:Int)=>(idx s88.2.2 j3.1).bind fun v99=>(nown b52.2 j3.1).bind fun v101=>(idx s88.2.2 j3.1).bind fun v103=>(idx a1.To s88.1).bind fun v105=>(idx s88.2.2 j3.1).bind fun v107=>(idx v107.To v105).bind fun v109=>(idx s88.2.2 j3.1).bind fun v111=>(idx v111.To v105).bind fun v113=>(idx ((List.set s88.2.2 (Int.toNat j3.1) ((zca.mk v111.Id v111.Mail v111.Since v111.Tries v111.Due ((List.set v111.To (Int.toNat v105) ((zga.mk v113.Recipient v113.Result false)))))))) j3.1).bind fun v115=>(nown b52.2 j3.1).bind fun v117=>(idx ((List.set s88.2.2 (Int.toNat j3.1) ((zca.mk v111.Id v111.Mail v111.Since v111.Tries v111.Due ((List.set v111.To (Int.toNat v105) ((zga.mk v113.Recipient v113.Result false)))))))) j3.1).bind fun v119=>(idx a1.To s88.1).bind fun v121=>(idx ((List.set s88.2.2 (Int.toNat j3.1) ((zca.mk v111.Id v111.Mail v111.Since v111.Tries v111.Due ((List.set v111.To (Int.toNat v105) ((zga.mk v113.Recipient v113.Result false)))))))) j3.1).bind fun v123=>(idx v123.To v121).bind fun v125=>(idx ((List.set s88.2.2 (Int.toNat j3.1) ((zca.mk v111.Id v111.Mail v111.Since v111.Tries v111.Due ((List.set v111.To (Int.toNat v105) ((zga.mk v113.Recipient v113.Result false)))))))) j3.1).bind fun v127=>(idx v127.To v121).bind fun v129=>(bif (j95 !=0) then (idx a1.To s88.1).bind fun v132=>(app 5864062014805 s88.2.1 (([(zla.mk a1.Entry v132 j95)]:List zla))).bind fun v134=>some ((v134,(List.set ((List.set s88.2.2 (Int.toNat j3.1) ((zca.mk v111.Id v111.Mail v111.Since v111.Tries v111.Due ((List.set v111.To (Int.toNat v105) ((zga.mk v113.Recipient v113.Result false)))))))) (Int.toNat j3.1) ((zca.mk v127.Id v127.Mail v127.Since v127.Tries v127.Due ((List.set v127.To (Int.toNat v121) ((zga.mk v129.Recipient j95 v129.Busy))))))))) else some ((s88.2.1,(List.set ((List.set s88.2.2 (Int.toNat j3.1) ((zca.mk v111.Id v111.Mail v111.Since v111.Tries v111.Due ((List.set v111.To (Int.toNat v105) ((zga.mk v113.Recipient v113.Result false)))))))) (Int.toNat j3.1) ((zca.mk v127.Id v127.Mail v127.Since v127.Tries v127.Due ((List.set v127.To (Int.toNat v121) ((zga.mk v129.Recipient j95 v129.Busy)))))))))):Option ((List zla) × (List zca))).bind fun (j92:(List zla) × (List zca))=>some (.cont ((w64 (s88.1+1)),j92.1,j92.2)) else some (.out ((s88.2.1,s88.2.2))))
def vja(a0:List zla)(a1:List zla)(s2:Int):Option (Step Int (Unit ⊕ Bool)):=
 (bif decide (s2 < (a0.length:Int)) then (idx a0 s2).bind fun v8=>(idx a1 s2).bind fun v10=>(bif (!(qva [(v8.Entry==v10.Entry),(v8.Number==v10.Number),(v8.Result==v10.Result)])) then some (.out (.inr false)) else some (.cont (w64 (s2+1)))) else some (.out (.inl (()))))
noncomputable def vwa(a0:List zla)(a1:List zla):Option Bool:=
 (bif ((a0.length:Int) !=(a1.length:Int)) then some false else (iter (vja a0 a1) 0).bind (Sum.elim (fun b3=>some true) (fun b4=>some b4)))
def wUa(a0:kia):Option Bool:=
 ((bif (a0.Envelope.From==([]:Str)) then (bif (a0.Envelope.Id==([]:Str)) then some (((w64 ((w64 ((a0.Envelope.To.length:Int)+(a0.Message.Fields.length:Int)))+(a0.Message.Body.length:Int)))==0)) else some false) else some false):Option Bool).bind fun (j1:Bool)=>some j1
def wVa(a0:zea):Option Bool:=
 (bif (a0.Kind==2) then (wUa a0.Mail).bind fun v2=>some v2 else ((bif (a0.Attempt.Entry==0) then (bif (a0.Attempt.Domain==([]:Str)) then some (((w64 ((a0.Attempt.To.length:Int)+(a0.Results.length:Int)))==0)) else some false) else some false):Option Bool).bind fun (j4:Bool)=>some j4)
def qXa(a0:zea)(s16:Int):Option (Step Int (Unit ⊕ zsa)):=
 (bif decide (s16 < (a0.Attempt.To.length:Int)) then (idx a0.Attempt.To s16).bind fun v22=>((bif decide (v22 < 0) then some true else (bif decide (60<=v22) then some true else (bif decide (0 < s16) then (idx a0.Attempt.To ((w64 (s16 - 1)))).bind fun v28=>some (decide (v22<=v28)) else some false))):Option Bool).bind fun (j24:Bool)=>(bif j24 then (zoa 3 ((-4))).bind fun v31=>some (.out (.inr v31)) else some (.cont (w64 (s16+1)))) else some (.out (.inl (()))))
def wla(a0:zea)(s37:Int):Option (Step Int (Unit ⊕ Int)):=
 (bif decide (s37 < (a0.Results.length:Int)) then (idx a0.Results s37).bind fun v43=>((bif decide (v43 < 1) then some true else some (decide (4 < v43))):Option Bool).bind fun (j45:Bool)=>(bif j45 then some (.out (.inr s37)) else some (.cont (w64 (s37+1)))) else some (.out (.inl (()))))
noncomputable def jha(a0:zea):Option zsa:=
 ((bif decide (a0.Attempt.Entry < 0) then some true else some (decide (1000000 < a0.Attempt.Entry))):Option Bool).bind fun (j1:Bool)=>(bif j1 then (zoa 3 ((-3))).bind fun v4=>some v4 else (qNa a0.Attempt.Domain).bind fun v6=>(bif (!v6) then (zoa 10 ((-4))).bind fun v9=>some v9 else ((bif decide ((a0.Attempt.To.length:Int) < 1) then some true else some (decide (60 < (a0.Attempt.To.length:Int)))):Option Bool).bind fun (j11:Bool)=>(bif j11 then (zoa 2 ((-4))).bind fun v14=>some v14 else (iter (qXa a0) 0).bind (Sum.elim (fun b17=>(bif ((a0.Results.length:Int) !=(a0.Attempt.To.length:Int)) then (zoa 9 ((-5))).bind fun v34=>some v34 else ((iter (wla a0) 0).bind (Sum.elim (fun b38=>some ((-1))) (fun b39=>some b39)):Option Int).bind fun (j36:Int)=>(bif decide (0<=j36) then (zoa 3 ((-5))).bind fun v49=>some v49 else (kna).bind fun v51=>some v51))) (fun b18=>some b18)))))
noncomputable def vxa(a0:zea):Option zsa:=
 ((bif (a0.Kind !=1) then some ((a0.Kind !=2)) else some false):Option Bool).bind fun (j1:Bool)=>(bif j1 then (zoa 4 ((-2))).bind fun v4=>some v4 else (qMa a0.Now).bind fun v6=>(bif (!v6) then (zoa 3 ((-7))).bind fun v9=>some v9 else (wVa a0).bind fun v11=>(bif (!v11) then (zoa 5 ((-8))).bind fun v14=>some v14 else (bif (a0.Kind==2) then (jha a0).bind fun v17=>some v17 else (qDa a0.Mail).bind fun v19=>(z0a v19).bind fun v21=>(bif v21 then (zoa v19.Code ((-6))).bind fun v24=>some v24 else (kna).bind fun v26=>some v26)))))
def kba(a1:Int)(s1:Int × zma):Option (Step (Int × zma) zma):=
 (bif decide (s1.1 < 8) then (nng ((w64 (8 * s1.1)))).bind fun v5=>(app 140737488355328 s1.2.out (([(toU8 ((uShr ((wu64 a1)) ((w64 (8 * s1.1))))))]:List UInt8))).bind fun v7=>some (.cont ((w64 (s1.1+1)),(zma.mk v7))) else some (.out s1.2))
noncomputable def zJa(a0:zma)(a1:Int):Option zma:=
 (iter (kba a1) ((0,a0))).bind fun b2=>some b2
noncomputable def z3a(a0:zma)(a1:Str):Option zma:=
 (zJa a0 ((a1.length:Int))).bind fun v1=>(app 140737488355328 v1.out a1).bind fun v3=>some ((zma.mk v3))
noncomputable def wma(a0:zea)(s10:Int × zma):Option (Step (Int × zma) zma):=
 (bif decide (s10.1 < (a0.Mail.Envelope.To.length:Int)) then (idx a0.Mail.Envelope.To s10.1).bind fun v14=>(z3a s10.2 v14.Address).bind fun v16=>(zJa v16 v14.Notify).bind fun v18=>some (.cont ((w64 (s10.1+1)),v18)) else some (.out s10.2))
noncomputable def wna(a0:zea)(s24:Int × zma):Option (Step (Int × zma) zma):=
 (bif decide (s24.1 < (a0.Mail.Message.Fields.length:Int)) then (idx a0.Mail.Message.Fields s24.1).bind fun v28=>(z3a s24.2 v28.Name).bind fun v30=>(z3a v30 v28.Value).bind fun v32=>some (.cont ((w64 (s24.1+1)),v32)) else some (.out s24.2))
def jMa(v46:Int)(s48:Int × zma):Option (Step (Int × zma) zma):=
 (bif decide (s48.1 < 8) then (nng ((w64 (8 * s48.1)))).bind fun v52=>(app 140737488355328 s48.2.out (([(toU8 ((uShr ((wu64 v46)) ((w64 (8 * s48.1))))))]:List UInt8))).bind fun v54=>some (.cont ((w64 (s48.1+1)),(zma.mk v54))) else some (.out s48.2))
noncomputable def woa(a0:zea)(s42:Int × zma):Option (Step (Int × zma) zma):=
 (bif decide (s42.1 < (a0.Attempt.To.length:Int)) then (idx a0.Attempt.To s42.1).bind fun v46=>(iter (jMa v46) ((0,s42.2))).bind fun b49=>some (.cont ((w64 (s42.1+1)),b49)) else some (.out s42.2))
def jNa(v62:Int)(s64:Int × zma):Option (Step (Int × zma) zma):=
 (bif decide (s64.1 < 8) then (nng ((w64 (8 * s64.1)))).bind fun v68=>(app 140737488355328 s64.2.out (([(toU8 ((uShr ((wu64 v62)) ((w64 (8 * s64.1))))))]:List UInt8))).bind fun v70=>some (.cont ((w64 (s64.1+1)),(zma.mk v70))) else some (.out s64.2))
noncomputable def wpa(a0:zea)(s58:Int × zma):Option (Step (Int × zma) zma):=
 (bif decide (s58.1 < (a0.Results.length:Int)) then (idx a0.Results s58.1).bind fun v62=>(iter (jNa v62) ((0,s58.2))).bind fun b65=>some (.cont ((w64 (s58.1+1)),b65)) else some (.out s58.2))
noncomputable def jia(a0:zea):Option (List UInt8):=
 (zJa ((zma.mk (([]:List UInt8)))) a0.Kind).bind fun v1=>(zJa v1 a0.Now).bind fun v3=>(bif (a0.Kind==1) then (z3a v3 a0.Mail.Envelope.From).bind fun v6=>(zJa v6 ((a0.Mail.Envelope.To.length:Int))).bind fun v8=>(iter (wma a0) ((0,v8))).bind fun b11=>(z3a b11 a0.Mail.Envelope.Id).bind fun v20=>(zJa v20 ((a0.Mail.Message.Fields.length:Int))).bind fun v22=>(iter (wna a0) ((0,v22))).bind fun b25=>(z3a b25 a0.Mail.Message.Body).bind fun v34=>some v34.out else (zJa v3 a0.Attempt.Entry).bind fun v36=>(z3a v36 a0.Attempt.Domain).bind fun v38=>(zJa v38 ((a0.Attempt.To.length:Int))).bind fun v40=>(iter (woa a0) ((0,v40))).bind fun b43=>(zJa b43 ((a0.Results.length:Int))).bind fun v56=>(iter (wpa a0) ((0,v56))).bind fun b59=>some b59.out)
def wWa(a0:List UInt8)(s1:Int × Int):Option (Step (Int × Int) Int):=
 (bif decide (s1.2 < (a0.length:Int)) then (idx a0 s1.2).bind fun v5=>some (.cont ((wu64 ((uXor s1.1 ((v5.toNat:Int))) * 1099511628211)),(w64 (s1.2+1)))) else some (.out s1.1))
noncomputable def Zoa(a0:List UInt8):Option Int:=
 (iter (wWa a0) ((14695981039346656037,0))).bind fun b2=>some b2
noncomputable def v4a(a0:zea):Option (List UInt8):=
 (jia a0).bind fun v1=>(z3a ((zma.mk (([]:List UInt8)))) v1).bind fun v3=>(Zoa v1).bind fun v5=>(zJa v3 ((w64 v5))).bind fun v7=>some v7.out
noncomputable def qfa(a0:List UInt8)(a1:zea):Option ((List UInt8) × zsa):=
 (bif decide (200000 < (a0.length:Int)) then (zoa 1 ((-1))).bind fun v2=>some (([],v2)) else (vxa a1).bind fun v4=>(z0a v4).bind fun v6=>(bif v6 then some (([],v4)) else (v4a a1).bind fun v9=>(kRa (([a0,v9]:List (List UInt8)))).bind fun v11=>(bif decide (200000 < (v11.length:Int)) then (zoa 1 ((-9))).bind fun v14=>some (([],v14)) else (kna).bind fun v16=>some ((v11,v16)))))
def kAa(a0:zha)(s2:Int × Int):Option (Step (Int × Int) Int):=
 (bif decide (s2.2 < 8) then (idx a0.b s2.2).bind fun v6=>(nng ((w64 (8 * s2.2)))).bind fun v8=>some (.cont ((uOr s2.1 ((uShl ((v6.toNat:Int)) ((w64 (8 * s2.2)))))),(w64 (s2.2+1)))) else some (.out s2.1))
noncomputable def zBa(a0:zha):Option (Int × zha):=
 (bif decide ((a0.b.length:Int) < 8) then some ((0,(zha.mk ([]) true))) else (iter (kAa a0) ((0,0))).bind fun b3=>(cut a0.b 8 ((a0.b.length:Int))).bind fun v10=>some (((w64 b3),(zha.mk v10 a0.bad))))
noncomputable def z4a(a0:zha):Option (Str × zha):=
 (zBa a0).bind fun v1=>((bif decide (v1.1 < 0) then some true else some (decide ((v1.2.b.length:Int) < v1.1))):Option Bool).bind fun (j3:Bool)=>(bif j3 then some ((([]:Str),(zha.mk ([]) true))) else (cut v1.2.b 0 v1.1).bind fun v6=>(cut v1.2.b v1.1 ((v1.2.b.length:Int))).bind fun v8=>some ((v6,(zha.mk v8 v1.2.bad))))
noncomputable def qYa(v9:Int × zha)(s11:Int × zha × (List zba)):Option (Step (Int × zha × (List zba)) (zha × (List zba))):=
 ((bif decide (s11.1 < v9.1) then some ((!s11.2.1.bad)) else some false):Option Bool).bind fun (j14:Bool)=>(bif j14 then (z4a s11.2.1).bind fun v17=>(zBa v17.2).bind fun v19=>(app 5864062014805 s11.2.2 (([(zba.mk v17.1 v19.1)]:List zba))).bind fun v21=>some (.cont ((w64 (s11.1+1)),v19.2,v21)) else some (.out ((s11.2.1,s11.2.2))))
noncomputable def qZa(v25:Int × zha)(s27:Int × zha × (List zka)):Option (Step (Int × zha × (List zka)) (zha × (List zka))):=
 ((bif decide (s27.1 < v25.1) then some ((!s27.2.1.bad)) else some false):Option Bool).bind fun (j30:Bool)=>(bif j30 then (z4a s27.2.1).bind fun v33=>(z4a v33.2).bind fun v35=>(app 4398046511104 s27.2.2 (([(zka.mk v33.1 v35.1)]:List zka))).bind fun v37=>some (.cont ((w64 (s27.1+1)),v35.2,v37)) else some (.out ((s27.2.1,s27.2.2))))
def jOa(s47:Int × zha × (List Int))(s55:Int × Int):Option (Step (Int × Int) Int):=
 (bif decide (s55.2 < 8) then (idx s47.2.1.b s55.2).bind fun v59=>(nng ((w64 (8 * s55.2)))).bind fun v61=>some (.cont ((uOr s55.1 ((uShl ((v59.toNat:Int)) ((w64 (8 * s55.2)))))),(w64 (s55.2+1)))) else some (.out s55.1))
noncomputable def q0a(v45:Int × zha)(s47:Int × zha × (List Int)):Option (Step (Int × zha × (List Int)) (zha × (List Int))):=
 ((bif decide (s47.1 < v45.1) then some ((!s47.2.1.bad)) else some false):Option Bool).bind fun (j50:Bool)=>(bif j50 then ((bif decide ((s47.2.1.b.length:Int) < 8) then some ((0,(zha.mk ([]) true))) else (iter (jOa s47) ((0,0))).bind fun b56=>(cut s47.2.1.b 8 ((s47.2.1.b.length:Int))).bind fun v63=>some (((w64 b56),(zha.mk v63 s47.2.1.bad)))):Option (Int × zha)).bind fun (j53:Int × zha)=>(app 17592186044416 s47.2.2 (([j53.1]:List Int))).bind fun v65=>some (.cont ((w64 (s47.1+1)),j53.2,v65)) else some (.out ((s47.2.1,s47.2.2))))
def KQa(s69:Int × zha × (List Int))(s77:Int × Int):Option (Step (Int × Int) Int):=
 (bif decide (s77.2 < 8) then (idx s69.2.1.b s77.2).bind fun v81=>(nng ((w64 (8 * s77.2)))).bind fun v83=>some (.cont ((uOr s77.1 ((uShl ((v81.toNat:Int)) ((w64 (8 * s77.2)))))),(w64 (s77.2+1)))) else some (.out s77.1))
noncomputable def jPa(v67:Int × zha)(s69:Int × zha × (List Int)):Option (Step (Int × zha × (List Int)) (zha × (List Int))):=
 ((bif decide (s69.1 < v67.1) then some ((!s69.2.1.bad)) else some false):Option Bool).bind fun (j72:Bool)=>(bif j72 then ((bif decide ((s69.2.1.b.length:Int) < 8) then some ((0,(zha.mk ([]) true))) else (iter (KQa s69) ((0,0))).bind fun b78=>(cut s69.2.1.b 8 ((s69.2.1.b.length:Int))).bind fun v85=>some (((w64 b78),(zha.mk v85 s69.2.1.bad)))):Option (Int × zha)).bind fun (j75:Int × zha)=>(app 17592186044416 s69.2.2 (([j75.1]:List Int))).bind fun v87=>some (.cont ((w64 (s69.1+1)),j75.2,v87)) else some (.out ((s69.2.1,s69.2.2))))
noncomputable def jja(a0:List UInt8):Option (zea × Bool):=
 (zBa ((zha.mk a0 false))).bind fun v1=>(zBa v1.2).bind fun v3=>((bif (v1.1==1) then (z4a v3.2).bind fun v7=>(zBa v7.2).bind fun v9=>(iter (qYa v9) ((0,v9.2,([]:List zba)))).bind fun b12=>(z4a b12.1).bind fun v23=>(zBa v23.2).bind fun v25=>(iter (qZa v25) ((0,v25.2,([]:List zka)))).bind fun b28=>(z4a b28.1).bind fun v39=>some ((v39.2,(zea.mk v1.1 v3.1 ((kia.mk ((zNa.mk v7.1 b12.2 v23.1)) ((zHa.mk b28.2 v39.1)))) ((zwa.mk 0 (([]:Str)) ([]))) ([])))) else (zBa v3.2).bind fun v41=>(z4a v41.2).bind fun v43=>(zBa v43.2).bind fun v45=>(iter (q0a v45) ((0,v45.2,([]:List Int)))).bind fun b48=>(zBa b48.1).bind fun v67=>(iter (jPa v67) ((0,v67.2,([]:List Int)))).bind fun b70=>some ((b70.1,(zea.mk v1.1 v3.1 ((kia.mk ((zNa.mk (([]:Str)) ([]) (([]:Str)))) ((zHa.mk ([]) ([]))))) ((zwa.mk v41.1 v43.1 b48.2)) b70.2)))):Option (zha × zea)).bind fun (j5:zha × zea)=>((bif (!j5.1.bad) then (bif ((j5.1.b.length:Int)==0) then (vxa j5.2).bind fun v92=>(z0a v92).bind fun v94=>some ((!v94)) else some false) else some false):Option Bool).bind fun (j89:Bool)=>some ((j5.2,j89))
noncomputable def q1a(a0:List UInt8)(s5:Int × Int × (List zea)):Option (Step (Int × Int × (List zea)) ((Int × (List zea)) ⊕ (Int × (List zea)))):=
 (cut a0 s5.1 ((a0.length:Int))).bind fun v10=>(z4a ((zha.mk v10 false))).bind fun v12=>(zBa v12.2).bind fun v14=>(bif v14.2.bad then some (.out (.inl ((s5.2.1,s5.2.2)))) else (jja v12.1).bind fun v17=>(v4a v17.1).bind fun v19=>((bif (!v17.2) then some true else (cut a0 s5.1 ((a0.length:Int))).bind fun v23=>(qla v23 v19).bind fun v25=>some ((!v25))):Option Bool).bind fun (j21:Bool)=>(bif j21 then some (.out (.inl ((s5.2.1,s5.2.2)))) else (app 733007751850 s5.2.2 (([v17.1]:List zea))).bind fun v28=>(bif ((v28.length:Int)==100) then some (.out (.inr (((w64 (s5.1+(v19.length:Int))),v28)))) else some (.cont ((w64 (s5.1+(v19.length:Int))),(w64 (s5.1+(v19.length:Int))),v28)))))
noncomputable def v5a(a0:List UInt8):Option ((List zea) × Int × zsa):=
 (bif decide (200000 < (a0.length:Int)) then (zoa 1 ((-1))).bind fun v2=>some (([],0,v2)) else ((iter (q1a a0) ((0,0,([]:List zea)))).bind (Sum.elim (fun b6=>some ((b6.1,b6.2))) (fun b7=>some ((b7.1,b7.2)))):Option (Int × (List zea))).bind fun (j4:Int × (List zea))=>(kna).bind fun v31=>some ((j4.2,j4.1,v31)))
noncomputable def vya(a0:List zea)(s4:Int):Option (Step Int (Unit ⊕ (zva × (List zla) × zsa))):=
 (bif decide (s4 < (a0.length:Int)) then (idx a0 s4).bind fun v10=>(vxa v10).bind fun v12=>(z0a v12).bind fun v14=>(bif v14 then (zoa v12.Code s4).bind fun v17=>some (.out (.inr (((zva.mk ([]) 0),[],v17)))) else some (.cont (w64 (s4+1)))) else some (.out (.inl (()))))
noncomputable def qQa(a0:List zea)(s19:Int × (List zla) × (List zca) × Int):Option (Step (Int × (List zla) × (List zca) × Int) (((List zla) × (List zca) × Int) ⊕ (zva × (List zla) × zsa))):=
 (bif decide (s19.1 < (a0.length:Int)) then (idx a0 s19.1).bind fun v25=>((bif (v25.Kind==1) then (Zna ((zva.mk s19.2.2.1 s19.2.2.2)) v25.Mail v25.Now).bind fun v29=>some ((v29.2.2.Code,v29.2.2.Index,s19.2.1,v29.1.Entries,v29.1.Next)) else (jea ((zva.mk s19.2.2.1 s19.2.2.2)) v25.Attempt).bind fun v31=>(z0a v31.2).bind fun v33=>(bif (!v33) then (jga v31.1 v25.Attempt v25.Results v25.Now).bind fun v36=>(app 5864062014805 s19.2.1 v36.2.1).bind fun v38=>some ((v36.2.2.Code,v36.2.2.Index,v38,v36.1.Entries,v36.1.Next)) else some ((v31.2.Code,v31.2.Index,s19.2.1,v31.1.Entries,v31.1.Next)))):Option (Int × Int × (List zla) × (List zca) × Int)).bind fun (j27:Int × Int × (List zla) × (List zca) × Int)=>(z0a ((zsa.mk j27.1 j27.2.1))).bind fun v40=>(bif v40 then (zoa j27.1 s19.1).bind fun v43=>some (.out (.inr (((zva.mk ([]) 0),[],v43)))) else some (.cont ((w64 (s19.1+1)),j27.2.2.1,j27.2.2.2.1,j27.2.2.2.2))) else some (.out (.inl ((s19.2.1,s19.2.2.1,s19.2.2.2)))))
noncomputable def v6a(a0:List zea):Option (zva × (List zla) × zsa):=
 (bif decide (100 < (a0.length:Int)) then (zoa 2 ((-1))).bind fun v2=>some (((zva.mk ([]) 0),[],v2)) else (iter (vya a0) 0).bind (Sum.elim (fun b5=>(iter (qQa a0) ((0,([]:List zla),[],0))).bind (Sum.elim (fun b20=>(kna).bind fun v45=>some (((zva.mk b20.2.1 b20.2.2),b20.1,v45))) (fun b21=>some ((b21.1,b21.2.1,b21.2.2))))) (fun b6=>some ((b6.1,b6.2.1,b6.2.2)))))
noncomputable def jka:Option Bool:=
 (KOa (([([97,64,121]:Str)]:List Str))).bind fun v1=>(qfa ([]) ((zea.mk 1 0 v1 ((zwa.mk 0 (([]:Str)) ([]))) ([])))).bind fun v3=>(v5a v3.1).bind fun v5=>(v6a (([(zea.mk 1 0 v1 ((zwa.mk 0 (([]:Str)) ([]))) ([])),(zea.mk 2 5 ((kia.mk ((zNa.mk (([]:Str)) ([]) (([]:Str)))) ((zHa.mk ([]) ([]))))) ((zwa.mk 0 (([121]:Str)) (([0]:List Int)))) (([1]:List Int)))]:List zea))).bind fun v7=>(qfa ([]) ((zea.mk 0 0 ((kia.mk ((zNa.mk (([]:Str)) ([]) (([]:Str)))) ((zHa.mk ([]) ([]))))) ((zwa.mk 0 (([]:Str)) ([]))) ([])))).bind fun v9=>((bif (v3.2.Code==0) then (bif (v5.2.2.Code==0) then (bif (v7.2.2.Code==0) then (R_At 4 ((-2))).bind fun v15=>(bif (qva [(v9.2.Code==v15.Code),(v9.2.Index==v15.Index)]) then (bif decide (16 < (v3.1.length:Int)) then (bif (v5.2.1==(v3.1.length:Int)) then (bif ((v5.1.length:Int)==1) then (bif ((v7.1.Entries.length:Int)==0) then (bif (v7.1.Next==1) then (vwa v7.2.1 (([(zla.mk 0 0 1)]:List zla))).bind fun v23=>some v23 else some false) else some false) else some false) else some false) else some false) else some false) else some false) else some false) else some false):Option Bool).bind fun (j11:Bool)=>some j11
def qSa(s1:Int × Int × (List UInt8)):Option (Step (Int × Int × (List UInt8)) (List UInt8)):=
 (bif decide (s1.2.1 < 8) then (app 140737488355328 s1.2.2 (([(toU8 ((uRem s1.1 256)))]:List UInt8))).bind fun v5=>some (.cont ((uQuo s1.1 256),(w64 (s1.2.1+1)),v5)) else some (.out s1.2.2))
noncomputable def qba(a0:List UInt8)(a1:Int):Option (List UInt8):=
 (iter (qSa) (((wu64 a1),0,a0))).bind fun b2=>some b2
noncomputable def wqa(a0:List UInt8)(a1:Str):Option (List UInt8):=
 (qba a0 ((a1.length:Int))).bind fun v1=>(app 140737488355328 v1 a1).bind fun v3=>some v3
noncomputable def wra(a1:List Int)(s3:Int × (List UInt8)):Option (Step (Int × (List UInt8)) (List UInt8)):=
 (bif decide (s3.1 < (a1.length:Int)) then (idx a1 s3.1).bind fun v7=>(qba s3.2 v7).bind fun v9=>some (.cont ((w64 (s3.1+1)),v9)) else some (.out s3.2))
noncomputable def yea(a0:List UInt8)(a1:List Int):Option (List UInt8):=
 (qba a0 ((a1.length:Int))).bind fun v1=>(iter (wra a1) ((0,v1))).bind fun b4=>some b4
def Z7a(a0:List UInt8)(s1:Int × Int):Option (Step (Int × Int) Int):=
 (bif decide (s1.2 < (a0.length:Int)) then (idx a0 s1.2).bind fun v5=>some (.cont ((wu64 ((uXor s1.1 ((v5.toNat:Int))) * 1099511628211)),(w64 (s1.2+1)))) else some (.out s1.1))
noncomputable def jQa(a0:List UInt8):Option Int:=
 (iter (Z7a a0) ((14695981039346656037,0))).bind fun b2=>some b2
noncomputable def qja(a0:zea)(s11:Int × (List UInt8)):Option (Step (Int × (List UInt8)) (List UInt8)):=
 (bif decide (s11.1 < (a0.Mail.Envelope.To.length:Int)) then (idx a0.Mail.Envelope.To s11.1).bind fun v15=>(wqa s11.2 v15.Address).bind fun v17=>(idx a0.Mail.Envelope.To s11.1).bind fun v19=>(qba v17 v19.Notify).bind fun v21=>some (.cont ((w64 (s11.1+1)),v21)) else some (.out s11.2))
noncomputable def qka(a0:zea)(s27:Int × (List UInt8)):Option (Step (Int × (List UInt8)) (List UInt8)):=
 (bif decide (s27.1 < (a0.Mail.Message.Fields.length:Int)) then (idx a0.Mail.Message.Fields s27.1).bind fun v31=>(wqa s27.2 v31.Name).bind fun v33=>(idx a0.Mail.Message.Fields s27.1).bind fun v35=>(wqa v33 v35.Value).bind fun v37=>some (.cont ((w64 (s27.1+1)),v37)) else some (.out s27.2))
noncomputable def qEa(a0:zea):Option (List UInt8):=
 (qba (([]:List UInt8)) a0.Kind).bind fun v1=>(qba v1 a0.Now).bind fun v3=>((bif (a0.Kind==1) then (wqa v3 a0.Mail.Envelope.From).bind fun v7=>(qba v7 ((a0.Mail.Envelope.To.length:Int))).bind fun v9=>(iter (qja a0) ((0,v9))).bind fun b12=>(wqa b12 a0.Mail.Envelope.Id).bind fun v23=>(qba v23 ((a0.Mail.Message.Fields.length:Int))).bind fun v25=>(iter (qka a0) ((0,v25))).bind fun b28=>(wqa b28 a0.Mail.Message.Body).bind fun v39=>some v39 else (qba v3 a0.Attempt.Entry).bind fun v41=>(wqa v41 a0.Attempt.Domain).bind fun v43=>(yea v43 a0.Attempt.To).bind fun v45=>(yea v45 a0.Results).bind fun v47=>some v47):Option (List UInt8)).bind fun (j5:List UInt8)=>(wqa (([]:List UInt8)) j5).bind fun v49=>(jQa j5).bind fun v51=>(qba v49 ((w64 v51))).bind fun v53=>some v53
noncomputable def wsa(a0:zea)(a1:zea):Option Bool:=
 ((bif (a0.Kind==a1.Kind) then (bif (a0.Now==a1.Now) then (jda a0.Mail a1.Mail).bind fun v4=>(bif v4 then (bif (a0.Attempt.Entry==a1.Attempt.Entry) then (bif (a0.Attempt.Domain==a1.Attempt.Domain) then (W9a a0.Attempt.To a1.Attempt.To).bind fun v9=>(bif v9 then (W9a a0.Results a1.Results).bind fun v12=>some v12 else some false) else some false) else some false) else some false) else some false) else some false):Option Bool).bind fun (j1:Bool)=>some j1
noncomputable def vIa(a0:List zea)(a1:List zea)(s2:Int):Option (Step Int (Unit ⊕ Bool)):=
 (bif decide (s2 < (a0.length:Int)) then (idx a0 s2).bind fun v8=>(idx a1 s2).bind fun v10=>(wsa v8 v10).bind fun v12=>(bif (!v12) then some (.out (.inr false)) else some (.cont (w64 (s2+1)))) else some (.out (.inl (()))))
noncomputable def vfa(a0:List zea)(a1:List zea):Option Bool:=
 (bif ((a0.length:Int) !=(a1.length:Int)) then some false else (iter (vIa a0 a1) 0).bind (Sum.elim (fun b3=>some true) (fun b4=>some b4)))
noncomputable def vJa(a0:List zea)(s1:(List UInt8) × Int):Option (Step ((List UInt8) × Int) ((List UInt8) ⊕ ((List UInt8) × Bool))):=
 (bif decide (s1.2 < (a0.length:Int)) then (idx a0 s1.2).bind fun v7=>(qfa s1.1 v7).bind fun v9=>(bif (v9.2.Code !=0) then some (.out (.inr (([],false)))) else some (.cont (v9.1,(w64 (s1.2+1))))) else some (.out (.inl s1.1)))
noncomputable def jla(a0:List zea):Option ((List UInt8) × Bool):=
 (iter (vJa a0) (([],0))).bind (Sum.elim (fun b2=>some ((b2,true))) (fun b3=>some ((b3.1,b3.2))))
noncomputable def z2a(a0:List zea)(v16:(List zea) × Int × zsa)(s27:Int × Int):Option (Step (Int × Int) Int):=
 (bif decide (s27.2 < (v16.1.length:Int)) then (idx a0 s27.2).bind fun v31=>(qEa v31).bind fun v33=>some (.cont ((w64 (s27.1+(v33.length:Int))),(w64 (s27.2+1)))) else some (.out s27.1))
noncomputable def qda(a0:List zea)(a1:Int)(a2:zea):Option Bool:=
 (jla a0).bind fun v1=>((jka).bind fun v4=>(bif (!v4) then some true else (bif (!v1.2) then some true else (bif decide (20 < (a0.length:Int)) then some true else (R_In a1 0 ((v1.1.length:Int))).bind fun v9=>some ((!v9))))):Option Bool).bind fun (j3:Bool)=>(bif j3 then (jka).bind fun v12=>some v12 else (cut v1.1 0 a1).bind fun v14=>(v5a v14).bind fun v16=>((bif (v16.2.2.Code !=0) then some true else (bif decide (a1 < v16.2.1) then some true else (bif decide ((a0.length:Int) < (v16.1.length:Int)) then some true else (cut a0 0 ((v16.1.length:Int))).bind fun v22=>(vfa v16.1 v22).bind fun v24=>some ((!v24))))):Option Bool).bind fun (j18:Bool)=>(bif j18 then some false else (iter (z2a a0 v16) ((0,0))).bind fun b28=>((bif (v16.2.1 !=b28) then some true else (bif decide ((v16.1.length:Int) < (a0.length:Int)) then (idx a0 ((v16.1.length:Int))).bind fun v38=>(qEa v38).bind fun v40=>some (decide ((w64 (b28+(v40.length:Int)))<=a1)) else some false)):Option Bool).bind fun (j35:Bool)=>(bif j35 then some false else (cut v1.1 0 v16.2.1).bind fun v43=>(qfa v43 a2).bind fun v45=>(bif (v45.2.Code !=0) then some (((v45.1.length:Int)==0)) else (v5a v45.1).bind fun v48=>(app 733007751850 (([]:List zea)) v16.1).bind fun v50=>((bif (v48.2.2.Code==0) then (bif (v48.2.1==(v45.1.length:Int)) then (app 733007751850 v50 (([a2]:List zea))).bind fun v55=>(vfa v48.1 v55).bind fun v57=>some v57 else some false) else some false):Option Bool).bind fun (j52:Bool)=>some j52))))
section
theorem Yaa(a b:Nat)(h:a+b<=9223372036854775807):w64 ((a:Int)+(b:Int))=((a+b:Nat):Int):=by
 rw[v1a (by omega) (by omega)];simp
theorem w64_ns(a b:Nat)(h:b<=a)(ha:a<=9223372036854775807):w64 ((a:Int) - (b:Int))=((a - b:Nat):Int):=by
 rw[v1a (by omega) (by omega)];omega
theorem qob(a:Nat)(h:a<=9223372036854775807):w64 (a:Int)=(a:Int):=v1a (by omega) (by omega)
theorem V2a(c:UInt8)(k:Nat)(hk:OfNat.ofNat k < 256):((c.toNat:Int)==no_index (OfNat.ofNat k:Int))=(c==OfNat.ofNat k):=by
 have e:(OfNat.ofNat k:Int)=((OfNat.ofNat k:Nat):Int):=rfl;have h2:(OfNat.ofNat k:UInt8).toNat=(OfNat.ofNat k:Nat):=by
  show (UInt8.ofNat k).toNat=k;rw[jDd];exact jDb hk
 rw[jAz,beq_iff_eq,beq_iff_eq,<-UInt8.toNat_inj,h2,e];omega
theorem u8_ne(c:UInt8)(k:Nat)(hk:OfNat.ofNat k < 256):((c.toNat:Int) !=no_index (OfNat.ofNat k:Int))=(c !=OfNat.ofNat k):=by
 unfold bne;rw[V2a c k hk]
section
variable {α:Type}
theorem Qza(l:List α)(i:Nat):idx l (i:Int)=l[i]? :=by unfold idx;rw[if_pos (by omega)];simp
theorem vOb{l:List α}{i:Nat}(h:i < l.length):idx l (i:Int)=some l[i]:=by rw[Qza];exact jAh h
theorem cut_nn{l:List α}{a b:Nat}(h1:a<=b)(h2:b<=l.length):cut l (a:Int) (b:Int)=some ((l.drop a).take (b - a)):=by
 unfold cut;rw[if_pos (by omega)];simp
theorem V3a{l:List α}{a:Nat}(h1:a<=l.length):cut l (a:Int) (l.length:Int)=some (l.drop a):=by
 rw[cut_nn h1 (jBc _)];rw[List.take_of_length_le (by simp)]
theorem Z8a{l:List α}{b:Nat}(h2:b<=l.length):cut l 0 (b:Int)=some (l.take b):=by
 have:=cut_nn (l:=l) (a:=0) (b:=b) (by omega) h2;simpa using this
theorem vka{lim:Nat}{l xs:List α}(h:l.length+xs.length<=lim):app lim l xs=some (l++xs):=by unfold app;rw[if_pos h]
theorem cat_ok{a b:Str}(h:a.length+b.length<=9223372036854775807):cat a b=some (a++b):=by unfold cat;rw[if_pos h]
end
section
variable {A R:Type} {body:A->Option (Step A R)}
theorem Y1a(Inv:A->Prop)(m:A->Nat)(Post:A->R->Prop)
 (h:∀s,Inv s->(∃r,body s=some (.out r)/\Post s r)∨∃s',body s=some (.cont s')/\Inv s' /\m s' < m s/\∀r,Post s' r->Post s r):
 ∀s,Inv s->∃r,iter body s=some r/\Post s r:=by
 intro s;induction hn:m s using Nat.strongRecOn generalizing s with
 | _ n ih=>
  intro hi;rcases h s hi with ⟨r,h1,h2⟩ | ⟨s',h1,h2,h3,h4⟩
  .exact ⟨r,zSa h1,h2⟩
  obtain ⟨r,h5,h6⟩:=ih (m s') (by omega) s' rfl h2;exact ⟨r,(z1a h1).trans h5,h4 r h6⟩
theorem KRa{α S:Type}(l:List α)(enc:Nat->S->A)(spec:Nat->List α->S->R)
 (h0:∀s,body (enc l.length s)=some (.out (spec l.length [] s)))
 (h1:∀p x r s,l=p++x::r->(body (enc p.length s)=some (.out (spec p.length (x::r) s)))∨∃s',body (enc p.length s)=some (.cont (enc (p.length+1) s'))/\spec p.length (x::r) s=spec (p.length+1) r s'):
 ∀{s0:A} (s:S) (_:s0=enc 0 s),iter body s0=some (spec 0 l s):=by
 have key:∀r p s,l=p++r->iter body (enc p.length s)=some (spec p.length r s):=by
  intro r;induction r with
  | nil=>
   intro p s h;have:p=l:=by simp[h]
   subst this;exact zSa (h0 s)
  | cons x r ih=>
   intro p s h;rcases h1 p x r s h with hb | ⟨s',hb,hs⟩
   .exact zSa hb
   rw[z1a hb,hs];have:=ih (p++ [x]) s' (by simp[h]);simpa using this
 rintro _ s rfl;exact key l [] s rfl
theorem QAa{α S:Type}(l:List α)(enc:Nat->S->A)(spec:Nat->List α->S->R)(Inv:Nat->List α->S->Prop)
 (h0:∀s,Inv l.length [] s->body (enc l.length s)=some (.out (spec l.length [] s)))
 (h1:∀p x r s,l=p++x::r->Inv p.length (x::r) s->(body (enc p.length s)=some (.out (spec p.length (x::r) s)))∨∃s',body (enc p.length s)=some (.cont (enc (p.length+1) s'))/\spec p.length (x::r) s=spec (p.length+1) r s' /\Inv (p.length+1) r s'):
 ∀{s0:A} (s:S) (_:s0=enc 0 s) (_:Inv 0 l s),iter body s0=some (spec 0 l s):=by
 have key:∀r p s,l=p++r->Inv p.length r s->iter body (enc p.length s)=some (spec p.length r s):=by
  intro r;induction r with
  | nil=>
   intro p s h hi;have:p=l:=by simp[h]
   subst this;exact zSa (h0 s hi)
  | cons x r ih=>
   intro p s h hi;rcases h1 p x r s h hi with hb | ⟨s',hb,hs,hi'⟩
   .exact zSa hb
   rw[z1a hb,hs];have:=ih (p++ [x]) s' (by simp[h]) (by simpa using hi');simpa using this
 rintro _ s rfl hi;exact key l [] s rfl hi
end
end
section
section
variable {α R O A S:Type}
def kCa(q:Nat->α->Option R):Nat->List α->Option R
 | _,[]=>none
 | i,x::r=>match q i x with | some y=>some y | none=>kCa q (i+1) r
theorem kKa(l:List α)(q:Nat->α->Option R)(oN:O)(oS:R->O){body:Int->Option (Step Int O)}(hl:body (l.length:Int)=some (.out oN))
 (hs:∀(i:Nat) x,l[i]? =some x->body (i:Int)=some ((q i x).elim (.cont ((i+1:Nat):Int)) fun r=>.out (oS r))):
 iter body 0=some ((kCa q 0 l).elim oN oS):=by
 have key:∀r p,l=p++r->iter body (p.length:Int)=some ((kCa q p.length r).elim oN oS):=by
  intro r;induction r with
  | nil=>
   intro p h;have:p=l:=by simp[h]
   subst this;exact zSa hl
  | cons x r ih=>
   intro p h;have hx:=hs p.length x (by simp[h]);unfold kCa;cases hq:q p.length x with
   | some y=>rw[hq]at hx;exact zSa hx
   | none=>
    rw[hq]at hx;rw[z1a hx];have:=ih (p++ [x]) (by simp[h]);simpa using this
 exact key l [] rfl
theorem qpb(l:List α)(enc:Int->S->A)(f:Nat->S->α->S)(out:S->O)(Inv:Nat->S->Prop){body:A->Option (Step A O)}
 (hl:∀s,Inv l.length s->body (enc l.length s)=some (.out (out s)))
 (hs:∀(i:Nat) x s,l[i]? =some x->Inv i s->body (enc i s)=some (.cont (enc ((i+1:Nat):Int) (f i s x)))/\Inv (i+1) (f i s x)) (s:S) (h0:Inv 0 s):
 ∃t,iter body (enc 0 s)=some (out t)/\Inv l.length t/\t=(l.zipIdx.foldl (fun s p=>f p.2 s p.1) s):=by
 have key:∀r p s,l=p++r->Inv p.length s->∃t,iter body (enc (p.length:Int) s)=some (out t)/\Inv l.length t/\t=((r.zipIdx p.length).foldl (fun s p=>f p.2 s p.1) s):=by
  intro r;induction r with
  | nil=>
   intro p s h hi;have:p=l:=by simp[h]
   subst this;exact ⟨s,zSa (hl s hi),hi,rfl⟩
  | cons x r ih=>
   intro p s h hi;obtain ⟨h1,h2⟩:=hs p.length x s (by simp[h]) hi;rw[z1a h1];obtain ⟨t,h3,h4,h5⟩:=ih (p++ [x]) (f p.length s x) (by simp[h]) (by simpa using h2);refine ⟨t,by simpa using h3,h4,?_⟩;rw[h5];simp
 exact key l [] s rfl h0
theorem J7a(f:S->α->S)(l:List α):∀(n:Nat) (s:S),(l.zipIdx n).foldl (fun s p=>f s p.1) s=l.foldl f s:=by
 induction l with
 | nil=>intro n s;rfl
 | cons x r ih=>intro n s;simp[ih]
theorem Zpa(l:List α)(enc:Int->S->A)(f:S->α->S)(out:S->O)(Inv:Nat->S->Prop){body:A->Option (Step A O)}
 (hl:∀s,Inv l.length s->body (enc l.length s)=some (.out (out s)))
 (hs:∀(i:Nat) x s,l[i]? =some x->Inv i s->body (enc i s)=some (.cont (enc ((i+1:Nat):Int) (f s x)))/\Inv (i+1) (f s x)) (s:S) (h0:Inv 0 s):
 iter body (enc 0 s)=some (out (l.foldl f s))/\Inv l.length (l.foldl f s):=by
 obtain ⟨t,h1,h2,h3⟩:=qpb l enc (fun _=>f) out Inv hl hs s h0;have:t=l.foldl f s:=by rw[h3];exact J7a f l 0 s
 subst this;exact ⟨h1,h2⟩
theorem QBa(c:α->Bool)(r:R)(l:List α)(n:Nat):kCa (fun _ x=>if c x then some r else none) n l=if l.any c then some r else none:=by
 induction l generalizing n with
 | nil=>rfl
 | cons x l ih=>unfold kCa;cases h:c x <;> simp[h,ih]
theorem q2a{q:Nat->α->Option R}{l:List α}{n:Nat}:kCa q n l=none↔∀(i:Nat) x,l[i]? =some x->q (n+i) x=none:=by
 induction l generalizing n with
 | nil=>simp[kCa]
 | cons x l ih=>
  unfold kCa;cases h:q n x with
  | some y=>
   simp only[reduceCtorEq,false_iff];intro hh;have:=hh 0 x rfl;rw[jCk,h]at this;cases this
  | none=>
   rw[ih];constructor
   .intro hh i y hy;cases i with
    | zero=>simp at hy;subst hy;exact h
    | succ i=>rw[show n+(i+1)=n+1+i by omega];exact hh i y (by simpa using hy)
   intro hh i y hy;rw[show n+1+i=n+(i+1) by omega];exact hh (i+1) y (by simpa using hy)
theorem Kna{q:Nat->α->Option R}{l:List α}{n:Nat}{r:R}(h:kCa q n l=some r):∃(i:Nat) (x:α),l[i]? =some x/\q (n+i) x=some r:=by
 induction l generalizing n with
 | nil=>cases h
 | cons x l ih=>
  unfold kCa at h;cases hq:q n x with
  | some y=>rw[hq]at h;cases h;exact ⟨0,x,rfl,hq⟩
  | none=>
   rw[hq]at h;obtain ⟨i,y,h1,h2⟩:=ih h;exact ⟨i+1,y,by simpa using h1,by rw[show n+(i+1)=n+1+i by omega];exact h2⟩
theorem z5a{l:List α}{i:Nat}{x:α}(h:l[i]? =some x):i < l.length:=(jAc.1 h).1
theorem kua{l:List α}{i:Nat}{x:α}(h:l[i]? =some x):decide ((i:Int) < (l.length:Int))=true:=by have:=z5a h;simp;omega
theorem z6a(l:List α):decide ((l.length:Int) < (l.length:Int))=false:=by simp
theorem zEa{l:List α}{i:Nat}{x:α}(h:l[i]? =some x):idx l (i:Int)=some x:=by rw[Qza];exact h
end
end
section
theorem vPb{α:Type}(c:α->Bool)(l:List α):∀n:Nat,decide ((0:Int)<=(kCa (fun i x=>if c x then some ((i:Nat):Int) else none) n l).getD (-1))=l.any c:=by
 induction l with
 | nil=>intro n;rfl
 | cons x l ih=>
  intro n;unfold kCa;cases hc:c x with
  | true=>simp[hc]
  | false=>simp only[jAi,if_false,List.any_cons,hc,jDr];exact ih (n+1)
theorem Vma(o:Option Int):Sum.elim (fun _=>some (-1)) (fun b=>some b) (o.elim (Sum.inl ()) Sum.inr:Unit ⊕ Int)=some (o.getD (-1)):=by cases o <;> rfl
theorem sc(i:Nat)(h:i < 9223372036854775807):w64 ((i:Int)+1)=((i+1:Nat):Int):=by rw[show ((i:Int)+1)=((i+1:Nat):Int) by omega,qob _ (by omega)]
theorem bkL_pos{T:Type}(bk:T->Nat)(l:List T):1<=bkL bk l:=by
 induction l with
 | nil=>simp[bkL]
 | cons y l ih=>unfold bkL;omega
theorem z0b{T:Type}{bk:T->Nat}{l:List T}{x:T}(h:x∈l):bk x+1<=bkL bk l:=by
 induction l with
 | nil=>cases h
 | cons y l ih=>
  unfold bkL;have hp:=bkL_pos bk l;rcases jCd.1 h with rfl | h
  .omega
  have:=ih h;omega
theorem QCa{T:Type}{bk:T->Nat}(hb:∀x,1<=bk x)(l:List T):l.length+1<=bkL bk l:=by
 induction l with
 | nil=>simp[bkL]
 | cons y l ih=>unfold bkL;have:=hb y;simp;omega
section
variable {α:Type}
end
theorem qqb{V:Type}(m:List (Str × V))(k:Str)(v:V)(x:Str):mget (mput m k v) x=if k==x then some v else mget m x:=by
 induction m with
 | nil=>rfl
 | cons p m ih=>
  obtain ⟨k',v'⟩:=p;unfold mput;by_cases h:k' =k
  .subst h;simp only[beq_self_eq_true,if_true,mget];cases k' ==x <;> simp
  have h1:(k' ==k)=false:=by simpa using h
  rw[h1];simp only[jAi,if_false,mget];rw[ih];by_cases h2:k' =x
  .subst h2;have:(k==k')=false:=by simpa using fun h' =>h h'.symm
   simp[this]
  have:(k' ==x)=false:=by simpa using h2
  rw[this];simp
section
variable {α A S O:Type}
end
end
def le:Nat->Nat->List UInt8
 | 0,_=>[]
 | k+1,u=>UInt8.ofNat (u % 256)::le k (u / 256)
def valB:List UInt8->Nat
 | []=>0
 | c::l=>c.toNat+256 * valB l
theorem vQb(k u:Nat):le (k+1) u=UInt8.ofNat (u % 256)::le k (u / 256):=rfl
theorem le_len:∀(k u:Nat),(le k u).length=k
 | 0,_=>rfl
 | k+1,u=>by simp[le,le_len k]
theorem vRb:∀(k u:Nat),valB (le k u)=u % 256 ^ k
 | 0,u=>by simp[le,valB,Nat.mod_one]
 | k+1,u=>by
  unfold le valB;rw[vRb k,jDd,show 256 ^ (k+1)=256 * 256 ^ k by rw[Nat.pow_succ,jDm],Nat.mod_mul];omega
theorem z1b:∀l:List UInt8,valB l < 256 ^ l.length
 | []=>by simp[valB]
 | c::l=>by
  have:=z1b l;have:=UInt8.toNat_lt c;unfold valB;rw[jCl,Nat.pow_succ];omega
theorem vSb:∀l:List UInt8,le l.length (valB l)=l
 | []=>rfl
 | c::l=>by
  have hc:=UInt8.toNat_lt c;unfold valB;rw[jCl];unfold le;rw[show (c.toNat+256 * valB l) % 256=c.toNat by omega,show (c.toNat+256 * valB l) / 256=valB l by omega,vSb l]
  congr 1
  exact UInt8.ofNat_toNat
def num8(n:Int):List UInt8:=le 8 (wu64 n).toNat
def vTb(l:List UInt8):Int:=w64 (valB l:Int)
theorem zVa(n:Int):(num8 n).length=8:=le_len _ _
theorem vUb(n:Int):w64 n=if 9223372036854775808<=n % 18446744073709551616 then n % 18446744073709551616 - 18446744073709551616 else n % 18446744073709551616:=by
 unfold w64;simp[IntKind.wrap,IntKind.bits,IntKind.signed]
theorem w64_u(n:Int)(h:ok64 n):w64 (wu64 n)=n:=by
 unfold ok64 at h;unfold wu64;by_cases hn:0<=n
 .rw[show n % 18446744073709551616=n by omega];exact v1a (by omega) (by omega)
 rw[show n % 18446744073709551616=n+18446744073709551616 by omega];show w64 (n+18446744073709551616)=n;rw[vUb];split <;> omega
theorem QDa(n:Int)(h:ok64 n):vTb (num8 n)=n:=by
 unfold vTb num8;rw[vRb];have h0:0<=wu64 n/\wu64 n < 18446744073709551616:=by unfold wu64;omega
 rw[jDb (show (wu64 n).toNat < 256 ^ 8 by show _ < 18446744073709551616;omega),Int.toNat_of_nonneg h0.1];exact w64_u n h
theorem wu64_w(u:Nat)(h:u < 18446744073709551616):(wu64 (w64 (u:Int))).toNat=u:=by
 unfold wu64;rw[vUb];split <;> omega
theorem qrb(l:List UInt8)(h:l.length=8):num8 (vTb l)=l:=by
 have h1:=z1b l;rw[h]at h1;unfold num8 vTb;rw[wu64_w _ h1];have:=vSb l;rw[h]at this;exact this
theorem kCb(u:Int):ok64 (w64 u):=by
 unfold ok64;rw[vUb];split <;> omega
theorem byte_shr(n:Int)(i:Nat)(hi:i < 8):toU8 (uShr (wu64 n) (w64 (8 * (i:Int))))=UInt8.ofNat ((wu64 n).toNat / 256 ^ i % 256):=by
 have h0:0<=wu64 n:=by unfold wu64;omega
 obtain ⟨u,hu⟩:∃u:Nat,wu64 n=(u:Int):=⟨(wu64 n).toNat,by omega⟩;rw[hu];unfold toU8 uShr;rw[v1a (by omega) (by omega),show (8 * (i:Int)).toNat=8 * i by omega,Nat.min_eq_left (by omega)];have h2:((2:Int) ^ (8 * i))=((256 ^ i:Nat):Int):=by
  rw[Int.natCast_pow];rw[Int.pow_mul,show ((2:Int) ^ 8)=((256:Nat):Int) by decide]
 rw[h2,<-Int.natCast_ediv];rfl
theorem J8a(n:Int){body:Int × zma->Option (Step (Int × zma) zma)}(hb:body=kba n):∀(k i:Nat) (o:List UInt8),i+k=8->o.length+k<=140737488355328->
 iter body ((i:Int),⟨o⟩)=some ⟨o++le k ((wu64 n).toNat / 256 ^ i)⟩:=by
 intro k;induction k with
 | zero=>
  intro i o hi hl;have:i=8:=by omega
  subst this;subst hb;refine zSa ?_;unfold kba le;simp
 | succ k ih=>
  intro i o hi hl;have hc:body ((i:Int),⟨o⟩)=some (.cont (((i+1:Nat):Int),⟨o++ [UInt8.ofNat ((wu64 n).toNat / 256 ^ i % 256)]⟩)):=by
   subst hb;unfold kba;dsimp only;rw[decide_eq_true (show (i:Int) < 8 by omega),byte_shr n i (by omega)];have:nng (w64 (8 * (i:Int)))=some true:=by
    unfold nng;rw[v1a (by omega) (by omega),if_pos (by omega)]
   rw[this];simp only[cond_true,jAb,sc i (by omega)];rw[vka (by simp;omega)];rfl
  rw[z1a hc,ih (i+1) _ (by omega) (by simp;omega)];rw[vQb,Nat.div_div_eq_div_mul,Nat.pow_succ,jAp];rfl
theorem zUa(w:zma)(n:Int)(h:w.out.length<=70368744177664):zJa w n=some ⟨w.out++num8 n⟩:=by
 unfold zJa;have:=J8a n rfl 8 0 w.out rfl (by omega);rw[show iter (kba n) (0,w)=_ from this];simp[num8]
def encT(s:Str):List UInt8:=num8 (s.length:Int)++s
theorem kLa(s:Str):(encT s).length=8+s.length:=by unfold encT;rw[jAf,zVa]
theorem kka(w:zma)(s:Str)(h:w.out.length<=35184372088832)(hs:s.length<=35184372088832):z3a w s=some ⟨w.out++encT s⟩:=by
 unfold z3a;rw[zUa w _ (by omega)];simp only[jAb];rw[vka (by rw[jAf,zVa];omega)];simp[encT]
theorem vVb:∀(k i u:Nat) (o:List UInt8),i+k=8->o.length+k<=140737488355328->u < 18446744073709551616->iter qSa ((u:Int),(i:Int),o)=some (o++le k u):=by
 intro k;induction k with
 | zero=>
  intro i u o hi hl hu;have:i=8:=by omega
  subst this;refine zSa ?_;unfold qSa le;simp
 | succ k ih=>
  intro i u o hi hl hu;have hc:qSa ((u:Int),(i:Int),o)=some (.cont (((u / 256:Nat):Int),((i+1:Nat):Int),o++ [UInt8.ofNat (u % 256)])):=by
   unfold qSa;dsimp only;rw[decide_eq_true (show (i:Int) < 8 by omega)];have h1:toU8 (uRem (u:Int) 256)=UInt8.ofNat (u % 256):=by
    unfold toU8 uRem;rw[show ((u:Int).tmod 256)=((u % 256:Nat):Int) from rfl];rw[show ((((u % 256:Nat):Int) % 256).toNat)=u % 256 by omega]
   have h2:uQuo (u:Int) 256=((u / 256:Nat):Int):=by
    unfold uQuo wu64;rw[show ((u:Int).tdiv 256)=((u / 256:Nat):Int) from rfl];omega
   rw[h1,h2];simp only[cond_true,sc i (by omega)];rw[vka (by simp;omega)];rfl
  rw[z1a hc,ih (i+1) (u / 256) _ (by omega) (by simp;omega) (by omega)];rw[vQb,jAp];rfl
theorem qga(b:List UInt8)(n:Int)(h:b.length<=70368744177664):qba b n=some (b++num8 n):=by
 unfold qba;have h0:0<=wu64 n/\wu64 n < 18446744073709551616:=by unfold wu64;omega
 have:=vVb 8 0 (wu64 n).toNat b rfl (by omega) (by omega);rw[Int.toNat_of_nonneg h0.1]at this;rw[show iter qSa (wu64 n,0,b)=_ from this];rfl
theorem v7a(b:List UInt8)(s:Str)(h:b.length<=35184372088832)(hs:s.length<=35184372088832):wqa b s=some (b++encT s):=by
 unfold wqa;rw[qga b _ (by omega)];simp only[jAb];rw[vka (by rw[jAf,zVa];omega)];simp[encT]
def J9a(l:List Int):List UInt8:=num8 (l.length:Int)++l.flatMap num8
theorem KSa:∀l:List Int,(l.flatMap num8).length=8 * l.length
 | []=>rfl
 | n::l=>by rw[jCe,jAf,zVa,KSa l,jCl];omega
theorem KTa(b:List UInt8)(l:List Int)(h:b.length<=35184372088832)(hl:l.length<=1048576):yea b l=some (b++J9a l):=by
 unfold yea;rw[qga b _ (by omega)];simp only[jAb];have hloop:iter (wra l) (0,b++num8 (l.length:Int))=some ((b++num8 (l.length:Int))++l.flatMap num8):=by
  refine QAa l (fun n (s:List UInt8)=>((n:Int),s)) (fun n r s=>s++r.flatMap num8) (fun n r s=>s.length<=35184372088840+8 * n) (fun s _=>?_) (fun p x r s hp hi=>.inr ?_) _ rfl (by rw[jAf,zVa];omega)
  .unfold wra;dsimp only;rw[z6a];simp
  have hx:l[p.length]? =some x:=by rw[hp];simp
  have hlt:=z5a hx;refine ⟨s++num8 x,?_,by simp,by rw[jAf,zVa];omega⟩;unfold wra;dsimp only;rw[kua hx,zEa hx];simp only[cond_true,jAb];rw[qga s x (by omega)];simp only[jAb,sc _ (show p.length < 9223372036854775807 by omega)]
 rw[hloop];simp[J9a]
def sumB(l:List UInt8):Int:=l.foldl (fun h c=>wu64 (uXor h (c.toNat:Int) * 1099511628211)) 14695981039346656037
theorem QSa(l:List UInt8)(h:l.length<=140737488355328):Zoa l=some (sumB l):=by
 unfold Zoa;rw[(Zpa l (fun i s=>(s,i)) (fun h c=>wu64 (uXor h (c.toNat:Int) * 1099511628211)) id (fun _ _=>True) (body:=wWa l) (fun s _=>by unfold wWa;dsimp only;rw[z6a];rfl) (fun i x s hx _=>⟨by
  have hi:=z5a hx;unfold wWa;dsimp only;rw[kua hx,zEa hx];simp only[cond_true,jAb,sc i (by omega)],trivial⟩) 14695981039346656037 trivial).1]
 rfl
theorem WDa(l:List UInt8)(h:l.length<=140737488355328):jQa l=some (sumB l):=QSa l h
def z2b(c:UInt8):Bool:=(decide (97<=c) && decide (c<=122)) || (decide (65<=c) && decide (c<=90)) || (decide (48<=c) && decide (c<=57))
def QTa(c:UInt8):Bool:=(decide (97<=c) && decide (c<=122)) || (decide (48<=c) && decide (c<=57)) || c==45 || c==46
def z3b(c:UInt8):Bool:=z2b c || c==45 || c==95 || c==46 || c==43 || c==61
def Yba:Bool->Str->Bool
 | p,[]=> !p
 | p,c::r=>if c=46 then !p && Yba true r else Yba false r
def domP(s:Str):Bool:=decide (s.length<=60) && s.all QTa && Yba true s
def atP(s:Str):Nat:=s.findIdx (· ==64)
def Y2a(s:Str):Bool:=decide (atP s < s.length) && decide (1<=atP s) && decide (atP s<=60) && (s.take (atP s)).all z3b && domP (s.drop (atP s+1))
theorem Yca(k:Nat)(c:UInt8)(hk:OfNat.ofNat k < 256):decide ((no_index (OfNat.ofNat k:Int))<=(c.toNat:Int))=decide ((OfNat.ofNat k:UInt8)<=c):=by
 have e:(OfNat.ofNat k:Int)=((OfNat.ofNat k:Nat):Int):=rfl;have h2:(OfNat.ofNat k:UInt8).toNat=(OfNat.ofNat k:Nat):=by
  show (UInt8.ofNat k).toNat=k;rw[jDd];exact jDb hk
 rw[jAz,decide_eq_true_eq,decide_eq_true_eq,UInt8.le_iff_toNat_le,h2,e];omega
theorem Yda(k:Nat)(c:UInt8)(hk:OfNat.ofNat k < 256):decide ((c.toNat:Int)<=(no_index (OfNat.ofNat k:Int)))=decide (c<=(OfNat.ofNat k:UInt8)):=by
 have e:(OfNat.ofNat k:Int)=((OfNat.ofNat k:Nat):Int):=rfl;have h2:(OfNat.ofNat k:UInt8).toNat=(OfNat.ofNat k:Nat):=by
  show (UInt8.ofNat k).toNat=k;rw[jDd];exact jDb hk
 rw[jAz,decide_eq_true_eq,decide_eq_true_eq,UInt8.le_iff_toNat_le,h2,e];omega
theorem R_In_eq(a b c:Int):R_In a b c=some (decide (b<=a) && decide (a<=c)):=by
 unfold R_In;cases decide (b<=a) <;> rfl
theorem Zqa(c:UInt8):v2a c=some (z2b c):=by
 unfold v2a z2b;simp only[Yca 97 c (by decide),Yda 122 c (by decide),Yca 65 c (by decide),Yda 90 c (by decide),Yca 48 c (by decide),Yda 57 c (by decide)];cases decide ((97:UInt8)<=c) <;> cases decide (c<=122) <;> cases decide ((65:UInt8)<=c) <;> cases decide (c<=90) <;> cases decide ((48:UInt8)<=c) <;> cases decide (c<=57) <;> rfl
theorem Y3a(s:Str):∀p,Yba p s=(!(p && (s.isEmpty || s.head? ==some 46)) && !(s.getLast? ==some 46) && !Lib.contains s [46,46]):=by
 induction s with
 | nil=>intro p;cases p <;> simp[Yba,Lib.contains,Lib.index]
 | cons c r ih=>
  intro p;have hcont:Lib.contains (c::r) [46,46]=((c==46 && r.head? ==some 46) || Lib.contains r [46,46]):=by
   unfold Lib.contains;rw[Lib.index];have hpre:([46,46]:List UInt8).isPrefixOf (c::r)=(c==46 && r.head? ==some 46):=by
    cases r with
    | nil=>simp[List.isPrefixOf]
    | cons d r=>simp only[List.isPrefixOf,List.head?_cons,Bool.and_true];rw[jAz];simp;constructor <;> rintro ⟨rfl,rfl⟩ <;> exact ⟨rfl,rfl⟩
   rw[hpre];have hg:=Lib.index_ge r [46,46];cases c==46 && r.head? ==some 46 with
   | true=>simp
   | false=>
    simp only[jAi,if_false,jDr];by_cases h:Lib.index r [46,46]= -1
    .simp[h]
    have:(Lib.index r [46,46]== -1)=false:=by simpa using h
    rw[this];simp only[jAi,if_false];rw[jAz];simp;omega
  rw[hcont,Yba];have hlast:(c::r).getLast? =if r.isEmpty then some c else r.getLast? :=by cases r <;> simp
  rw[hlast];by_cases hc:c=46
  .subst hc;rw[if_pos rfl,ih true];cases r with
   | nil=>simp
   | cons d r=>cases p <;> cases hd:(d==46) <;> simp_all [Bool.and_comm,Bool.and_assoc,Bool.and_left_comm]
  have h1:(c==46)=false:=by simpa using hc
  have h2:(some c==some (46:UInt8))=false:=by simpa using hc
  rw[if_neg hc,ih false];cases r with
  | nil=>simp[h1,h2,Lib.contains,Lib.index,hc]
  | cons d r=>simp[h1,h2,hc]
theorem ZOa(s t:Str):k0a s t=some (t.isPrefixOf s):=by
 unfold k0a kwa;by_cases h:t.length<=s.length
 .have:decide ((t.length:Int)<=(s.length:Int))=true:=by simp;omega
  rw[this,Z8a h];simp only[cond_true,jAb,Option.some.injEq];rw[jAz,beq_iff_eq,jCv,List.prefix_iff_eq_take];constructor <;> exact fun h=>h.symm
 have:decide ((t.length:Int)<=(s.length:Int))=false:=by simp;omega
 rw[this];simp only[cond_false,jAb,Option.some.injEq]
 symm
 rw[Bool.eq_false_iff];intro hp;exact h (jCv.1 hp).length_le
theorem ZPa(s t:Str)(hs:s.length<=9223372036854775806):k1a s t=some (t.isSuffixOf s):=by
 unfold k1a kxa;by_cases h:t.length<=s.length
 .have:decide ((t.length:Int)<=(s.length:Int))=true:=by simp;omega
  rw[this,w64_ns _ _ h (by omega),V3a (by omega)];simp only[cond_true,jAb,Option.some.injEq];rw[jAz,beq_iff_eq,List.isSuffixOf_iff_suffix,List.suffix_iff_eq_drop];constructor <;> exact fun h=>h.symm
 have:decide ((t.length:Int)<=(s.length:Int))=false:=by simp;omega
 rw[this];simp only[cond_false,jAb,Option.some.injEq]
 symm
 rw[Bool.eq_false_iff];intro hp;exact h (List.isSuffixOf_iff_suffix.1 hp).length_le
theorem dom_char(c:UInt8):((bif decide ((97:UInt8)<=c) then (bif decide (c<=122) then some true else (bif decide ((48:UInt8)<=c) then (bif decide (c<=57) then some true else (bif (c==45) then some true else some (c==46))) else (bif (c==45) then some true else some (c==46)))) else (bif decide ((48:UInt8)<=c) then (bif decide (c<=57) then some true else (bif (c==45) then some true else some (c==46))) else (bif (c==45) then some true else some (c==46)))):Option Bool)=some (QTa c):=by
 unfold QTa;cases decide ((97:UInt8)<=c) <;> cases decide (c<=122) <;> cases decide ((48:UInt8)<=c) <;> cases decide (c<=57) <;> cases (c==45) <;> rfl
theorem yPa(s:Str)(hs:s.length < 4294967281):qNa s=some (domP s):=by
 have hloop:iter (qxa s) 0=some ((kCa (fun _ c=>if !QTa c then some () else none) 0 s).elim (.inl ()) .inr):=by
  refine kKa s _ (Sum.inl ()) Sum.inr ?_ ?_
  .unfold qxa;rw[z6a];rfl
  intro i c hc;have hi:=z5a hc;unfold qxa;rw[kua hc,zEa hc];simp only[cond_true,jAb,V2a c 45 (by decide),V2a c 46 (by decide),Yca 97 c (by decide),Yda 122 c (by decide),Yca 48 c (by decide),Yda 57 c (by decide),dom_char];rw[show ((i:Int)+1)=((i+1:Nat):Int) by omega,qob _ (by omega)];cases QTa c <;> rfl
 unfold qNa domP;rw[hloop,QBa,Y3a];by_cases hn:s=[]
 .subst hn;simp
 have h1:(s !=([]:Str))=true:=by simpa using hn
 rw[h1];simp only[cond_true];by_cases hl:s.length<=60
 .have h2:decide ((s.length:Int)<=60)=true:=by simp;omega
  rw[h2];have hall:s.any (fun c=> !QTa c)= !(s.all QTa):=by simp[List.not_all_eq_any_not]
  rw[hall];cases hg:s.all QTa with
  | false=>simp[hl]
  | true=>
   simp only[jBh,jAi,if_false,Option.elim,jAb,cond_true,ZOa,ZPa s [46] (by omega),k8a,if_pos hs];have hp:([46]:Str).isPrefixOf s=(s.head? ==some 46):=by
    cases s with
    | nil=>rfl
    | cons d r=>simp only[List.isPrefixOf,List.head?_cons,Bool.and_true];rw[jAz];simp;exact ⟨fun h=>h.symm,fun h=>h.symm⟩
   have hsf:([46]:Str).isSuffixOf s=(s.getLast? ==some 46):=by
    rw[jAz,List.isSuffixOf_iff_suffix,beq_iff_eq];constructor
    .rintro ⟨t,rfl⟩;simp
    intro h;obtain ⟨ys,rfl⟩:=List.getLast?_eq_some_iff.1 h;exact ⟨ys,rfl⟩
   have he:s.isEmpty=false:=by simpa using hn
   rw[hp,hsf,he];cases s.head? ==some 46 <;> cases s.getLast? ==some 46 <;> cases Lib.contains s [46,46] <;> simp[hl]
 have h2:decide ((s.length:Int)<=60)=false:=by simp;omega
 rw[h2];simp[hl]
theorem Y4a(s:Str):Lib.index s [64]=if atP s < s.length then (atP s:Int) else -1:=by
 rw[Lib.index_one];unfold atP;induction s with
 | nil=>rfl
 | cons c r ih=>
  rw[Lib.indexByte,List.findIdx_cons];cases hc:(c==64) with
  | true=>simp
  | false=>
   simp only[jAi,if_false,cond_false,jCl];rw[ih];by_cases h:r.findIdx (· ==64) < r.length
   .simp only[if_pos h,if_pos (show r.findIdx (· ==64)+1 < r.length+1 by omega)];have:(((r.findIdx (· ==64):Nat):Int)== -1)=false:=by rw[beq_eq_false_iff_ne];omega
    rw[this];simp
   simp only[if_neg h,if_neg (show ¬(r.findIdx (· ==64)+1 < r.length+1) by omega)];simp
theorem cut_at(s:Str):Lib.cut s [64]=if atP s < s.length then (s.take (atP s),s.drop (atP s+1),true) else (s,[],false):=by
 unfold Lib.cut;rw[Y4a];by_cases h:atP s < s.length
 .rw[if_pos h,if_pos h,if_pos (by omega)];simp
 rw[if_neg h,if_neg h,if_neg (by omega)]
def Yea(s:Str):Str × Str × Bool:=if atP s < s.length then (s.take (atP s),s.drop (atP s+1),Y2a s) else (s,[],false)
theorem vWb(c:UInt8):(z2b c || decide (0<=Lib.indexByte [45,95,46,43,61] c))=z3b c:=by
 unfold z3b;by_cases h1:c=45
 .subst h1;decide
 by_cases h2:c=95
 .subst h2;decide
 by_cases h3:c=46
 .subst h3;decide
 by_cases h4:c=43
 .subst h4;decide
 by_cases h5:c=61
 .subst h5;decide
 rw[beq_eq_false_iff_ne.2 h1,beq_eq_false_iff_ne.2 h2,beq_eq_false_iff_ne.2 h3,beq_eq_false_iff_ne.2 h4,beq_eq_false_iff_ne.2 h5];simp[Lib.indexByte,Ne.symm h1,Ne.symm h2,Ne.symm h3,Ne.symm h4,Ne.symm h5]
theorem jma(s:Str)(hs:s.length < 4294967281):vca s=some (Yea s):=by
 have hloop:∀v:Str × Str × Bool,v.1.length < 4294967281->iter (qOa v) 0=some ((kCa (fun _ c=>if !z3b c then some () else none) 0 v.1).elim (.inl ()) .inr):=by
  intro v hv;refine kKa v.1 _ (Sum.inl ()) Sum.inr ?_ ?_
  .unfold qOa;rw[z6a];rfl
  intro i c hc;have hi:=z5a hc;unfold qOa;rw[kua hc,zEa hc];simp only[cond_true,jAb,Zqa,kja];rw[show ((i:Int)+1)=((i+1:Nat):Int) by omega,qob _ (by omega)];have hg:=vWb c;cases hl:z2b c with
  | true=>rw[hl]at hg;simp only[Bool.true_or]at hg;rw[<-hg];rfl
  | false=>rw[hl]at hg;simp only[jDr]at hg;rw[<-hg];cases decide (0<=Lib.indexByte [45,95,46,43,61] c) <;> rfl
 unfold vca vYa;rw[if_pos hs,cut_at];simp only[jAb];unfold Yea;by_cases h:atP s < s.length
 .simp only[if_pos h,cond_true];rw[hloop _ (by simp;omega),QBa];have hall:(s.take (atP s)).any (fun c=> !z3b c)= !((s.take (atP s)).all z3b):=by simp[List.not_all_eq_any_not]
  simp only[hall];have hlen:(s.take (atP s)).length=atP s:=by simp;omega
  rw[hlen,yPa _ (by simp;omega)];unfold Y2a;by_cases h0:atP s=0
  .simp[h0]
  have hne:(s.take (atP s) !=([]:Str))=true:=by
   simp only[bne_iff_ne,ne_eq];intro hx;have:=congrArg List.length hx;rw[hlen]at this;simp at this;omega
  rw[hne];by_cases h60:atP s<=60
  .have e:decide ((atP s:Int)<=60)=true:=by simp;omega
   rw[e];cases (s.take (atP s)).all z3b <;> simp[h,h60] <;> omega
  have e:decide ((atP s:Int)<=60)=false:=by simp;omega
  rw[e];simp[h60]
 simp[if_neg h]
theorem z4b(s:Str):(Yea s).2.2=Y2a s:=by
 unfold Yea;by_cases h:atP s < s.length
 .rw[if_pos h]
 rw[if_neg h];unfold Y2a;simp[h]
theorem ysa(s:Str)(hs:s.length < 4294967281):qsa s=some (Y2a s):=by
 unfold qsa;rw[jma s hs];simp[z4b]
abbrev Lft:=Option (List UInt8)
def rdr:Lft->zha
 | none=>⟨[],true⟩
 | some b=>⟨b,false⟩
def cur:Lft->kea
 | none=>⟨[],true⟩
 | some b=>⟨b,false⟩
def pN:Lft->Int × Lft
 | none=>(0,none)
 | some b=>if b.length < 8 then (0,none) else (vTb (b.take 8),some (b.drop 8))
def pT(s:Lft):Str × Lft:=match pN s with
 | (n,some b)=>if 0<=n/\n<=(b.length:Int) then (b.take n.toNat,some (b.drop n.toNat)) else ([],none)
 | (_,none)=>([],none)
theorem kDb:∀(a b:List UInt8),valB (a++b)=valB a+256 ^ a.length * valB b
 | [],b=>by simp[valB]
 | c::a,b=>by
  show c.toNat+256 * valB (a++b)=c.toNat+256 * valB a+256 ^ (a.length+1) * valB b;rw[kDb a b,Nat.pow_succ,Nat.mul_add,jBs,jDm (256 ^ a.length) 256,Nat.mul_assoc]
theorem or_shl(u c i:Nat)(hu:u < 256 ^ i)(hc:c < 256)(hi:i < 8):uOr (u:Int) (uShl (c:Int) (w64 (8 * (i:Int))))=((u+256 ^ i * c:Nat):Int):=by
 have hp:(256:Nat) ^ i=2 ^ (8 * i):=by rw[Nat.pow_mul]
 have hle:256 ^ i * 256<=256 ^ 8:=by rw[<-Nat.pow_succ];exact Nat.pow_le_pow_right (by decide) (by omega)
 have h8:(256:Nat) ^ 8=18446744073709551616:=by decide
 have hcc:256 ^ i * c+256 ^ i<=256 ^ i * 256:=by rw[<-Nat.mul_succ];exact Nat.mul_le_mul_left _ hc
 have hpos:0 < 256 ^ i:=Nat.pow_pos (by decide);have hs:uShl (c:Int) (w64 (8 * (i:Int)))=((256 ^ i * c:Nat):Int):=by
  unfold uShl wu64;rw[v1a (by omega) (by omega),show (8 * (i:Int)).toNat=8 * i by omega,Nat.min_eq_left (by omega)];have h2:((2:Int) ^ (8 * i))=((256 ^ i:Nat):Int):=by
   rw[hp,Int.natCast_pow];rfl
  rw[h2,Int.mul_comm,<-Int.natCast_mul];omega
 rw[hs];unfold uOr;rw[BitVec.toNat_or,BitVec.toNat_ofInt,BitVec.toNat_ofInt];have e1:((u:Int) % ((2 ^ 64:Nat):Int)).toNat=u:=by
  rw[show ((2 ^ 64:Nat):Int)=18446744073709551616 by decide];omega
 have e2:(((256 ^ i * c:Nat):Int) % ((2 ^ 64:Nat):Int)).toNat=256 ^ i * c:=by
  rw[show ((2 ^ 64:Nat):Int)=18446744073709551616 by decide];omega
 rw[e1,e2,Nat.or_comm,hp];rw[hp]at hu;rw[<-Nat.two_pow_add_eq_or_of_lt hu]
 congr 1
 omega
theorem qsb(x:zha){body:Int × Int->Option (Step (Int × Int) Int)}(hb:body=kAa x)(hl:8<=x.b.length):∀(k i:Nat),i+k=8->
 iter body ((valB (x.b.take i):Int),(i:Int))=some (valB (x.b.take 8):Int):=by
 intro k;induction k with
 | zero=>
  intro i hi;obtain rfl:i=8:=by omega
  subst hb;refine zSa ?_;unfold kAa;simp
 | succ k ih=>
  intro i hi;have hx:x.b[i]? =some x.b[i]:=jAh (by omega);generalize x.b[i]=c at hx;have hc:=UInt8.toNat_lt c;have htl:(x.b.take i).length=i:=by rw[jBl];omega
  have hv:=z1b (x.b.take i);rw[htl]at hv;have ht:x.b.take (i+1)=x.b.take i++ [c]:=by
   rw[List.take_add_one,hx];rfl
  have hc:body ((valB (x.b.take i):Int),(i:Int))=some (.cont ((valB (x.b.take (i+1)):Int),((i+1:Nat):Int))):=by
   subst hb;unfold kAa;dsimp only;rw[decide_eq_true (show (i:Int) < 8 by omega),zEa hx];have hn:nng (w64 (8 * (i:Int)))=some true:=by
    unfold nng;rw[v1a (by omega) (by omega),if_pos (by omega)]
   simp only[cond_true,jAb,hn,sc i (by omega)];rw[or_shl _ _ i hv hc (by omega),ht,kDb,htl];simp[valB]
  rw[z1a hc];exact ih (i+1) (by omega)
theorem zGa(s:Lft)(h:∀b,s=some b->b.length<=1048576):zBa (rdr s)=some ((pN s).1,rdr (pN s).2):=by
 cases s with
 | none=>rfl
 | some b=>
  have hbl:=h b rfl;unfold zBa pN rdr;dsimp only;by_cases hb:b.length < 8
  .rw[decide_eq_true (show (b.length:Int) < 8 by omega),if_pos hb];rfl
  rw[decide_eq_false (show ¬(b.length:Int) < 8 by omega),if_neg hb];simp only[cond_false];have:=qsb ⟨b,false⟩ rfl (by show 8<=b.length;omega) 8 0 rfl;rw[show iter (kAa ⟨b,false⟩) (0,0)=_ from this];simp only[jAb];rw[show ((8:Int))=((8:Nat):Int) from rfl,V3a (by omega)];rfl
theorem Yfa{s:Lft}{n:Int}{b:List UInt8}(h:pN s=(n,some b)):∃b0,s=some b0/\b.length+8=b0.length/\ok64 n/\b0=num8 n++b:=by
 cases s with
 | none=>cases h
 | some b0=>
  unfold pN at h;dsimp only at h;split at h
  .cases h
  rename_i hb;cases h;have h8:(b0.take 8).length=8:=by rw[jBl];omega
  refine ⟨b0,rfl,by rw[jCh];omega,kCb _,?_⟩;rw[qrb _ h8,jDg]
theorem jYa(n:Int)(h:ok64 n)(b:List UInt8):pN (some (num8 n++b))=(n,some b):=by
 unfold pN;dsimp only;have h8:=zVa n;rw[if_neg (by rw[jAf];omega),List.take_left' h8,List.drop_left' h8,QDa n h]
theorem QUa(s:Str)(h:s.length<=1048576)(b:List UInt8):pT (some (encT s++b))=(s,some b):=by
 unfold pT encT;rw[jAp,jYa _ (by unfold ok64;omega)];dsimp only;rw[if_pos ⟨by omega,by rw[jAf];omega⟩];simp
theorem Yga{s:Lft}{t:Str}{b:List UInt8}(h:pT s=(t,some b)):∃b0,s=some b0/\b.length+8+t.length=b0.length/\b0=encT t++b:=by
 unfold pT at h;split at h
 .rename_i n b1 hn;obtain ⟨b0,rfl,h1,h2,h3⟩:=Yfa hn;split at h
  .rename_i hc;cases h;have hl:(b1.take n.toNat).length=n.toNat:=by rw[jBl];omega
   refine ⟨b0,rfl,by rw[jCh,hl];omega,?_⟩;unfold encT;rw[hl,Int.toNat_of_nonneg hc.1,jAp,jDg];exact h3
  cases h
 cases h
theorem pN_none(s:Lft):(pN s).2=none∨∃b b0,(pN s).2=some b/\s=some b0/\b.length+8=b0.length:=by
 cases h:(pN s).2 with
 | none=>exact .inl rfl
 | some b=>
  obtain ⟨b0,h1,h2,_⟩:=Yfa (s:=s) (n:=(pN s).1) (b:=b) (by rw[<-h]);exact .inr ⟨b,b0,rfl,h1,h2⟩
def qna(s:Lft):Prop:=∀b,s=some b->b.length<=1048576
theorem kra{s:Lft}(h:qna s):qna (pN s).2:=by
 intro b hb;rcases pN_none s with h1 | ⟨b1,b0,h1,h2,h3⟩
 .rw[h1]at hb;cases hb
 rw[h1]at hb;cases hb;have:=h b0 h2;omega
theorem k7a{s:Lft}(h:qna s):qna (pT s).2/\(pT s).1.length<=1048576:=by
 cases hp:(pT s).2 with
 | none=>
  refine ⟨fun b hb=>(by cases hb),?_⟩;unfold pT at hp ⊢;split at hp
  .split at hp
   .cases hp
   rename_i hc;rw[if_neg hc];simp
  simp
 | some b=>
  obtain ⟨b0,h1,h2,_⟩:=Yga (s:=s) (t:=(pT s).1) (b:=b) (by rw[<-hp]);have:=h b0 h1;exact ⟨fun b' hb=>by cases hb;omega,by omega⟩
theorem kca(s:Lft)(h:qna s):z4a (rdr s)=some ((pT s).1,rdr (pT s).2):=by
 have hs:=kra h;unfold z4a pT;rw[zGa s h];simp only[jAb];generalize pN s=q at hs;obtain ⟨n,q2⟩:=q;cases q2 with
 | none=>
  unfold rdr;dsimp only;by_cases hn:n < 0
  .rw[decide_eq_true hn];rfl
  rw[decide_eq_false hn];by_cases h0:n=0
  .subst h0;rfl
  simp only[jCy,cond_false,jAb];rw[decide_eq_true (show ((0:Nat):Int) < n by omega)];rfl
 | some b=>
  have hb:=hs b rfl;unfold rdr;dsimp only;by_cases hc:0<=n/\n<=(b.length:Int)
  .rw[if_pos hc,decide_eq_false (show ¬n < 0 by omega)];simp only[cond_false,jAb];rw[decide_eq_false (show ¬(b.length:Int) < n by omega)];obtain ⟨m,rfl⟩:∃m:Nat,n=(m:Int):=⟨n.toNat,by omega⟩;simp only[cond_false];rw[Z8a (by omega),V3a (by omega)];rfl
  rw[if_neg hc];by_cases hn:n < 0
  .rw[decide_eq_true hn];rfl
  rw[decide_eq_false hn];simp only[cond_false,jAb];rw[decide_eq_true (show (b.length:Int) < n by omega)];rfl
theorem Z9a(o:Option Unit)(a b:Bool):Sum.elim (fun _=>some a) (fun _=>some b) (o.elim (Sum.inl ()) Sum.inr:Unit ⊕ Unit)=some (bif o.isSome then b else a):=by cases o <;> rfl
theorem KUa{α R:Type}(c:α->Bool)(r:R)(l:List α)(n:Nat):(kCa (fun _ x=>if c x then some r else none) n l).isSome=l.any c:=by
 rw[QBa];cases l.any c <;> rfl
theorem vXb{α:Type}(l:List α)(p:α->Bool):l.any (fun x=> !p x)= !l.all p:=by simp[List.not_all_eq_any_not]
theorem R_At_eq(a b:Int):R_At a b=some ⟨a,b⟩:=rfl
theorem zMa(a b:Int):zoa a b=some ⟨a,b⟩:=rfl
theorem kDa:kna=some ⟨0,0⟩:=rfl
theorem z7a(f:zsa):z0a f=some (f.Code !=0):=rfl
theorem Yha(o:Option zsa)(f:zsa):Sum.elim (fun _=>some f) (fun b=>some b) (o.elim (Sum.inl ()) Sum.inr:Unit ⊕ zsa)=some (o.getD f):=by cases o <;> rfl
def nameC(c:UInt8):Bool:=z2b c || c==45 || c==95 || c==46
def nameP(s:Str):Bool:=decide (1<=s.length) && decide (s.length<=60) && s.all nameC
theorem Y5a(s:Str)(hs:s.length<=1048576):y8a s=some (nameP s):=by
 have hloop:iter (wea s) 0=some ((kCa (fun _ c=>if !nameC c then some () else none) 0 s).elim (.inl ()) .inr):=by
  refine kKa s _ (Sum.inl ()) Sum.inr ?_ ?_
  .unfold wea;rw[z6a];rfl
  intro i c hc;have hi:=z5a hc;unfold wea;rw[kua hc,zEa hc];simp only[cond_true,jAb,Zqa,V2a c 45 (by decide),V2a c 95 (by decide),V2a c 46 (by decide),sc i (by omega)];unfold nameC;cases z2b c <;> cases (c==45) <;> cases (c==95) <;> cases (c==46) <;> rfl
 unfold y8a nameP;rw[hloop];simp only[jAb,Z9a,KUa,vXb];by_cases hn:s=[]
 .subst hn;rfl
 have h1:(s !=([]:Str))=true:=by simpa using hn
 have h2:decide (1<=s.length)=true:=by have:=List.length_pos_iff.2 hn;simp;omega
 have e2:decide ((s.length:Int)<=60)=decide (s.length<=60):=by rw[jAz];simp;omega
 rw[h1,h2,e2];cases decide (s.length<=60) <;> cases s.all nameC <;> rfl
def noteP(n:Int):Bool:=decide (0<=n) && decide (n<=7)
def recQ(l:List zba)(i:Nat)(r:zba):Option zsa:=
 if !Y2a r.Address then some ⟨10,i⟩ else if !noteP r.Notify then some ⟨3,i⟩ else if (l.take i).any (fun x=>x.Address==r.Address) then some ⟨7,i⟩ else none
def recF(l:List zba):zsa:=(kCa (recQ l) 0 l).getD ⟨0,0⟩
def fromB(s:Str):Bool:=s !=([]:Str) && !Y2a s
def envF(e:zNa):zsa:=if fromB e.From then ⟨10, -10⟩ else if decide (e.To.length < 1) || decide (60 < e.To.length) then ⟨2, -11⟩ else if e.Id !=([]:Str) && !nameP e.Id then ⟨10, -12⟩ else recF e.To
def smallR(l:List zba):Prop:=l.length<=1048576/\∀a∈l,a.Address.length<=1048576
def kEb(e:zNa):Prop:=e.From.length<=1048576/\e.Id.length<=1048576/\smallR e.To
theorem KVa(n:Int):vsa n=some (noteP n):=by unfold vsa noteP;cases decide (0<=n) <;> rfl
theorem any_take(l:List zba)(i:Nat)(s:Str)(hl:l.length<=1048576):decide ((0:Int)<=(kCa (fun i x=>if x.Address==s then some ((i:Nat):Int) else none) 0 (l.take i)).getD (-1))=(l.take i).any (fun x=>x.Address==s):=vPb (fun x=>x.Address==s) (l.take i) 0
theorem j6a(l:List zba)(h:smallR l):qma l=some (recF l):=by
 obtain ⟨h3,h4⟩:=h;unfold qma recF;rw[kKa l (recQ l) (.inl ()) .inr]
 .simp only[jAb,kDa,Yha]
 .unfold qqa;rw[z6a];rfl
 intro i r hr;have hi:=z5a hr;have ha:=h4 r (jAd hr);have hl2:iter (kXa r (l.take i)) 0=some ((kCa (fun i x=>if x.Address==r.Address then some ((i:Nat):Int) else none) 0 (l.take i)).elim (.inl ()) .inr):=by
  refine kKa (l.take i) _ (Sum.inl ()) Sum.inr ?_ ?_
  .unfold kXa;rw[z6a];rfl
  intro k x hx;have hk:=z5a hx;simp at hk;unfold kXa;rw[kua hx,zEa hx];simp only[cond_true,jAb,sc k (by omega)];cases x.Address==r.Address <;> rfl
 unfold qqa recQ;rw[kua hr,zEa hr];simp only[cond_true,jAb,ysa _ (show r.Address.length < 4294967281 by omega),zMa,KVa,Z8a (Nat.le_of_lt hi),hl2,Vma,any_take _ _ _ h3,sc i (by omega)];cases Y2a r.Address <;> cases noteP r.Notify <;> cases (l.take i).any (fun x=>x.Address==r.Address) <;> rfl
theorem ZQa(e:zNa)(h:kEb e):qPa e=some (envF e):=by
 obtain ⟨h1,h2,h3⟩:=h;unfold qPa envF;rw[ysa _ (by omega),Y5a _ h2,j6a _ h3];have e1:decide ((e.To.length:Int) < 1)=decide (e.To.length < 1):=by generalize e.To.length=n;rw[jAz];simp;omega
 have e2:decide ((60:Int) < (e.To.length:Int))=decide (60 < e.To.length):=by rw[jAz];simp;omega
 simp only[jAb,zMa,e1,e2];unfold fromB;cases e.From !=([]:Str) <;> cases Y2a e.From <;> cases decide (e.To.length < 1) <;> cases decide (60 < e.To.length) <;> cases e.Id !=([]:Str) <;> cases nameP e.Id <;> rfl
theorem vYb{e:zNa}(h:zNa.bk e<=1048576):kEb e:=by
 unfold zNa.bk at h;dsimp only at h;refine ⟨by omega,by omega,?_,fun a ha=>?_⟩
 .have:=QCa (bk:=zba.bk) (fun x=>by unfold zba.bk;omega) e.To;omega
 have h5:=z0b (bk:=zba.bk) ha;have h6:zba.bk a=a.Address.length+1+1+1:=rfl;omega
theorem Y6a(s:Str)(i:Nat)(h:i < s.length):(strB s)[i]'(by rw[kBa];exact h)=s[i]:=rfl
theorem vZb(s:Str)(i:Nat)(h:i < s.length):(strB s).get! i=s[i]:=by
 have:=get_at (strB s) i (by rw[kBa];exact h);rw[jCk]at this;rw[this];rfl
theorem Yia{s:Str}{i:Nat}{c:UInt8}(h:s[i]? =some c)(hc:c.toNat < 128):Z1a s i=(c.toNat:Int)/\y6a s i=1:=by
 have hi:=z5a h;have e:s[i]=c:=by rw[jAh hi]at h;exact Option.some.inj h
 have hd:=decode_ascii (strB s) i (by rw[kBa];exact hi) (by rw[Y6a s i hi,e];exact hc);unfold Z1a y6a;rw[hd,Y6a s i hi,e];exact ⟨rfl,rfl⟩
theorem v0b{s:Str}{i:Nat}{c:UInt8}(h:s[i]? =some c)(hc:128<=c.toNat):128<=Z1a s i/\Z1a s i<=2147483647/\1<=y6a s i:=by
 have hi:=z5a h;have e:s[i]=c:=by rw[jAh hi]at h;exact Option.some.inj h
 have hd:=decode_high (strB s) i (by rw[kBa];exact hi) (by rw[Y6a s i hi,e];exact hc);have hl:=decode_le (strB s) i;unfold Z1a y6a;exact ⟨by omega,by omega,hd.2⟩
theorem z5b(s:ByteArray)(pos:Nat):∀k,1<=k->k < (Utf8.decode s pos).2->(s.get! (pos+k)).toNat / 64=2:=by
 intro k h1 h2;simp only[Utf8.decode]at h2;repeat' split at h2
 all_goals first
  | (exfalso;simp at h2;omega)
  | (
   rename_i hq _;simp only[jAr,decide_eq_true_eq,beq_iff_eq]at hq;have h2:k < 2:=h2;obtain rfl:k=1:=by omega
   exact hq.2.2)
  | (
   rename_i hq _;simp only[jAr,decide_eq_true_eq,beq_iff_eq]at hq;have h2:k < 3:=h2;have:k=1∨k=2:=by omega
   rcases this with rfl | rfl
   .exact hq.1.2.2
   exact hq.2.2)
  | (
   rename_i hq _;simp only[jAr,decide_eq_true_eq,beq_iff_eq]at hq;have h2:k < 4:=h2;have:k=1∨k=2∨k=3:=by omega
   rcases this with rfl | rfl | rfl
   .exact hq.1.1.2.2
   .exact hq.1.2.2
   exact hq.2.2)
theorem v1b{s:Str}{i j:Nat}{c d:UInt8}(h:s[i]? =some c)(hc:128<=c.toNat)(h1:i<=j)(h2:j < i+y6a s i)(hj:s[j]? =some d):128<=d.toNat:=by
 by_cases e:j=i
 .subst e;rw[h]at hj;cases hj;exact hc
 have hjl:=z5a hj;have e2:s[j]=d:=by rw[jAh hjl]at hj;exact Option.some.inj hj
 have:=z5b (strB s) i (j - i) (by omega) (by unfold y6a at h2;omega);rw[show i+(j - i)=j by omega,vZb s j hjl,e2]at this;omega
theorem toU8_nat(c:UInt8):toU8 (c.toNat:Int)=c:=by
 unfold toU8;have:=c.toNat_lt;rw[show ((c.toNat:Int) % 256).toNat=c.toNat by omega];simp
theorem Yja{t:Str}(h:W8a t=true){c:UInt8}(hc:c∈t):c.toNat < 128:=by
 unfold W8a at h;rw[jAw]at h;simpa using h c hc
theorem qtb{r:Int}(h:128<=r):∃m x,1<=m/\m<=3/\(wLa r).length=m+1/\(wLa r)[m]? =some x/\128<=x.toNat:=by
 unfold wLa;simp only[Utf8.encode];have hc:128<=(if Utf8.valid r=true then r.toNat else Utf8.runeError):=by
  split
  .omega
  decide
 generalize (if Utf8.valid r=true then r.toNat else Utf8.runeError)=c at hc;have hb:∀n:Nat,128<=(UInt8.ofNat (128+n % 64)).toNat:=by
  intro n;rw[jDd];have:(128+n % 64) % 2 ^ 8=128+n % 64:=jDb (by omega);rw[this];omega
 rw[if_neg (by omega)];split
 .exact ⟨1,_,by omega,by omega,rfl,rfl,hb c⟩
 split
 .exact ⟨2,_,by omega,by omega,rfl,rfl,hb c⟩
 exact ⟨3,_,by omega,by omega,rfl,rfl,hb c⟩
theorem WEa{t:Str}(h:∀c∈t,c.toNat < 128){x:UInt8}(hx:128<=x.toNat):Lib.indexByte t x= -1:=by
 have hc:=Lib.contains_iff_indexByte t x;have hn:t.contains x=false:=by
  rw[Bool.eq_false_iff];intro hm;have:=h x (by simpa using hm);omega
 rw[hn]at hc;have hge:=Lib.indexByte_ge t x;have:=of_decide_eq_false hc.symm;omega
theorem V4a(t:Str)(c:UInt8)(hc:c.toNat < 128):kJa t (c.toNat:Int)=some (Lib.indexByte t c):=by
 unfold kJa;have h1:decide ((0:Int)<=(c.toNat:Int))=true:=by simp
 have h2:decide ((c.toNat:Int) < 128)=true:=by simp;omega
 rw[h1,h2];simp only[cond_true,jAb,toU8_nat];rfl
theorem WFa(t:Str)(r:Int)(hr:128<=r)(ht:∀c∈t,c.toNat < 128)(hl:t.length<=4294967281):kJa t r=some (-1):=by
 unfold kJa;have h1:decide ((0:Int)<=r)=true:=by simp;omega
 have h2:decide (r < 128)=false:=by simp;omega
 rw[h1,h2];simp only[cond_true,cond_false,jAb];cases hq:r==65533 with
 | true=>
  simp only[cond_true];obtain ⟨o,ho,rfl⟩:=Y1a (body:=qHa t) (fun i=>i<=t.length) (fun i=>t.length - i) (fun _ o=>o=.inl ()) (fun i hi=>by
   unfold qHa;by_cases hlt:i < t.length
   .right;have hg:t[i]? =some t[i]:=jAh hlt;have hc:=ht t[i] (List.getElem_mem hlt);obtain ⟨e1,e2⟩:=Yia hg hc;rw[e1,e2,decide_eq_true hlt];have hne:((t[i].toNat:Int)==65533)=false:=by rw[beq_eq_false_iff_ne];omega
    rw[hne];exact ⟨i+1,rfl,by omega,by omega,fun _ h=>h⟩
   left;rw[decide_eq_false hlt];exact ⟨.inl (),rfl,rfl⟩) 0 (jCs _)
  rw[ho];rfl
 | false=>
  simp only[cond_false];have hv:∃b,kWa r=some b:=by
   unfold kWa;cases decide (0<=r) <;> cases decide (r < 55296) <;> cases decide (57343 < r) <;> cases decide (r<=1114111) <;> exact ⟨_,rfl⟩
  obtain ⟨b,hb⟩:=hv;rw[hb];simp only[jAb];cases b with
  | false=>rfl
  | true=>
   simp only[jBh,cond_false];obtain ⟨m,x,hm1,hm3,hlen,hx,hx128⟩:=qtb hr;have hst:w64 (((wLa r).length:Int) - 1)=(m:Int):=by rw[hlen,v1a (by omega) (by omega)];omega
   rw[hst];have hbody:∃o,qJa t r (m:Int)=some (.out o)/\(o=.inl ()∨o=.inr (-1)):=by
    unfold qJa;by_cases hlt:m < t.length
    .have hd:decide ((m:Int) < (t.length:Int))=true:=by simp;omega
     have hc:=ht t[m] (List.getElem_mem hlt);rw[hd,hst,vOb hlt,zEa hx];have hne:((t[m].toNat:Int) !=(x.toNat:Int))=true:=by simp;omega
     simp only[cond_true,jAb,hne];rw[show (m:Int)+1=((m+1:Nat):Int) by omega,qob _ (by omega),V3a (by omega)];simp only[jAb];have hib:kja (t.drop (m+1)) x=some (-1):=by
      show some (Lib.indexByte (t.drop (m+1)) x)=_;rw[WEa (fun c hc=>ht c (jDi hc)) hx128]
     rw[hib];exact ⟨.inr (-1),rfl,.inr rfl⟩
    have hd:decide ((m:Int) < (t.length:Int))=false:=by simp;omega
    rw[hd];exact ⟨.inl (),rfl,.inl rfl⟩
   obtain ⟨o,ho,ho2⟩:=hbody;rw[zSa ho];rcases ho2 with rfl | rfl <;> rfl
theorem zab(s t:Str)(h8:s.length<=8)(h2:2<=t.length)(hl:t.length < 4294967281)(ht:W8a t=true):vFa s t=some (Lib.indexAny s t):=by
 have htc:∀c∈t,c.toNat < 128:=fun c hc=>Yja ht hc
 unfold vFa;have e1:(t==([]:Str))=false:=by rw[beq_eq_false_iff_ne];rintro rfl;simp at h2
 have e2:((t.length:Int)==1)=false:=by rw[beq_eq_false_iff_ne];omega
 have e3:z9a (s.length:Int)=some false:=by unfold z9a;simp;omega
 rw[e1,e2,e3];simp only[cond_false,jAb];obtain ⟨o,ho,ho2⟩:=Y1a (body:=qKa s t) (fun i=>Lib.NoAny s t i) (fun i=>s.length - i) (fun _ o=>Sum.elim (fun _=>some (-1)) (fun b=>some b) o=some (Lib.indexAny s t)) (fun i hi=>by
  unfold qKa;by_cases hlt:i < s.length
  .have hg:s[i]? =some s[i]:=jAh hlt;rw[decide_eq_true hlt];simp only[cond_true];by_cases hc:s[i].toNat < 128
   .obtain ⟨q1,q2⟩:=Yia hg hc;rw[q1,q2,V4a t _ hc];simp only[jAb];have hcon:=Lib.contains_iff_indexByte t s[i];rw[<-hcon];cases hin:t.contains s[i] with
    | true=>
     left;exact ⟨.inr (i:Int),rfl,by rw[Lib.indexAny_hit hi hg hin];rfl⟩
    | false=>
     right;exact ⟨i+1,rfl,hi.succ hg hin,by omega,fun _ h=>h⟩
   have hc:128<=s[i].toNat:=by omega
   obtain ⟨q1,q2,q3⟩:=v0b hg hc;rw[WFa t _ q1 htc (by omega)];right;refine ⟨i+y6a s i,rfl,fun j b hj hb=>?_,by omega,fun _ h=>h⟩;by_cases hji:j < i
   .exact hi j b hji hb
   have:=v1b hg hc (by omega) hj hb;rw[Bool.eq_false_iff];intro hm;have:=htc b (by simpa using hm);omega
  left;rw[decide_eq_false hlt];refine ⟨.inl (),rfl,?_⟩;have hn:Lib.NoAny s t s.length:=fun j b hj hb=>hi j b (by omega) hb
  rw[Lib.indexAny_none hn];rfl) 0 (Lib.NoAny.zero s t)
 rw[ho];exact ho2
theorem zbb(t:Str):∀s:Str,decide (0<=Lib.indexAny s t)=s.any fun c=>t.contains c:=by
 intro s;induction s with
 | nil=>rfl
 | cons c s ih=>
  have hge:=Lib.indexAny_ge t s;rw[List.any_cons,<-ih,Lib.indexAny];cases t.contains c with
  | true=>simp
  | false=>
   simp only[jAi,if_false,jDr];by_cases h:Lib.indexAny s t= -1
   .simp[h]
   have:(Lib.indexAny s t== -1)=false:=by simpa using h
   rw[this];simp only[jAi,if_false];rw[jAz];simp;omega
theorem j7a(s t:Str)(hs:s.length<=1048576)(h2:2<=t.length)(hl:t.length<=1048576)(ht:W8a t=true):kGa s t=some (s.any fun c=>t.contains c):=by
 unfold kGa qra;rw[if_pos ⟨by omega,by omega,h2,ht⟩];simp only[jAb,zbb]
end Go.Proofs.YtdblnmhmmfahkaaGreat
