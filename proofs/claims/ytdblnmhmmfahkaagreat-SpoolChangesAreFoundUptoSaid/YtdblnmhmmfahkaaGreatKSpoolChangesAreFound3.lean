/- Part 3 of the proof of the law SpoolChangesAreFound: what it needs. -/
import Derived.Test.YtdblnmhmmfahkaaGreatKSpoolChangesAreFound2
import Derived.Test.YtdblnmhmmfahkaaGreatProg
import Derived.Lib.IndexMore
import Derived.Lib.IndexAny
import Derived.Lib.Atoi
import Derived.Lib.Join
import Derived.Lib.Repeat
import Derived.Lib.Split
import Derived.Lib.FieldsP
import Derived.Lib.Strings
import Derived.Shelf.Strings.SlTrimAscii
set_option linter.unusedVariables false
set_option linter.unusedSimpArgs false
set_option maxRecDepth 100000
set_option maxHeartbeats 40000000
namespace Go.Proofs.YtdblnmhmmfahkaaGreat
open Go.RowKit Go.Proofs.Tryz
section
open Go.RowKit Go.Lib Go.Proofs.Tryz
variable {E:Env} {fr:Fr} {σ:Sto} {K:Post}
def purF:List Oper->List (Option AV)->List Bool->Fr
 | o::l,some c::cs,b::D=>(match o.dst with | some d=>[(d,bif b then c else .any)] | none=>[])++purF l cs D
 | _::l,none::cs,_::D=>purF l cs D
 | _,_,_=>[]
def yna(l:List Oper)(cs:List (Option AV))(i:Nat):Option Nat:=match cs[i]? with
 | some (some _)=>(l[i]?).bind (·.dst)
 | _=>none
theorem kZa:∀(l:List Oper) (cs:List (Option AV)) (D:List Bool) (d:Nat),(∀i,yna l cs i≠some d)->(purF l cs D++fr).get d=fr.get d
 | [],_,_,_,_=>rfl
 | _::_,[],_,_,_=>rfl
 | _::_,some _::_,[],_,_=>rfl
 | _::_,none::_,[],_,_=>rfl
 | o::l,none::cs,b::D,d,h=>kZa l cs D d fun i=>h (i+1)
 | o::l,some c::cs,b::D,d,h=>by
  have ih:=kZa l cs D d fun i=>h (i+1)
  have h0:o.dst≠some d:=h 0;unfold purF;cases hd:o.dst with
  | none=>exact ih
  | some d' =>
   show Fr.get ((d',_)::(purF l cs D++fr)) d=_;rw[Fr.get_cons,if_neg (fun e=>h0 (by rw[hd,e]))];exact ih
theorem qFa:∀(l:List Oper) (cs:List (Option AV)) (D:List Bool) (i:Nat) (c:AV) (d:Nat),(∀i j d,yna l cs i=some d->yna l cs j=some d->i=j)->l.length<=D.length->yna l cs i=some d->cs[i]? =some (some c)->(purF l cs D++fr).get d=bif D.getD i false then c else .any
 | [],_,_,i,_,_,_,_,h,hc=>by unfold yna at h;rw[hc]at h;simp at h
 | _::_,[],_,i,_,_,_,_,h,hc=>by simp at hc
 | _::_,_::_,[],_,_,_,_,hl,_,_=>by simp at hl
 | o::l,none::cs,b::D,0,c,d,_,_,h,hc=>by simp at hc
 | o::l,none::cs,b::D,i+1,c,d,hd,hl,h,hc=>by
  have:=qFa l cs D i c d (fun i j d h1 h2=>by have:=hd (i+1) (j+1) d h1 h2;omega) (by simpa using hl) h (by simpa using hc);simpa[purF]using this
 | o::l,some c0::cs,b::D,0,c,d,hd,hl,h,hc=>by
  simp at hc;subst hc;have h0:o.dst=some d:=h;unfold purF;rw[h0];show Fr.get ((d,_)::(purF l cs D++fr)) d=_;rw[Fr.get_cons,if_pos rfl];rfl
 | o::l,some c0::cs,b::D,i+1,c,d,hd,hl,h,hc=>by
  have ih:=qFa l cs D i c d (fun i j d h1 h2=>by have:=hd (i+1) (j+1) d h1 h2;omega) (by simpa using hl) h (by simpa using hc);unfold purF;cases h0:o.dst with
  | none=>simpa using ih
  | some d' =>
   show Fr.get ((d',_)::(purF l cs D++fr)) d=_;rw[Fr.get_cons,if_neg (fun e=>by
    have:=hd 0 (i+1) d (by show o.dst=some d;rw[h0,e]) h;omega)]
   simpa using ih
theorem Fr.has_append(q:Nat):∀(x y:Fr),Fr.has q (x++y)=(Fr.has q x || Fr.has q y)
 | [],y=>by simp[Fr.has]
 | (k,a)::x,y=>by simp[Fr.has,Fr.has_append q x y,Bool.or_assoc]
theorem YQa(q:Nat):∀(l:List Oper) (cs:List (Option AV)) (D T:List Bool),T=List.replicate D.length true->Fr.has q (purF l cs D)=true->Fr.has q (purF l cs T)=true
 | [],_,_,_,_,h=>by simp[purF,Fr.has]at h
 | _::_,[],_,_,_,h=>by simp[purF,Fr.has]at h
 | _::_,some _::_,[],_,_,h=>by simp[purF,Fr.has]at h
 | _::_,none::_,[],_,_,h=>by simp[purF,Fr.has]at h
 | o::l,none::cs,b::D,T,hT,h=>by
  subst hT;exact YQa q l cs D _ rfl (by simpa[purF]using h)
 | o::l,some c::cs,b::D,T,hT,h=>by
  subst hT;have ih:=YQa q l cs D _ rfl;unfold purF at h ⊢;simp only[jCl,List.replicate_succ]at h ⊢;cases h0:o.dst with
  | none=>rw[h0]at h;simp[Fr.has_append,Fr.has]at h ⊢;exact ih h
  | some d=>
   rw[h0]at h;simp only[Fr.has_append,Fr.has,Bool.or_false,jBx,cond_true]at h ⊢;rcases h with h | h
   .refine .inl ?_;cases b with
    | true=>exact h
    | false=>simp[AV.has]at h
   exact .inr (ih h)
structure HvS (E:Env) (o:Oper) (FR:Fr) (σ σ' :Sto):Prop where
 go:∀fr,(∀x∈o.op.operands,fr.ev x=FR.ev x)->(∀q,FR.has q=false->fr.has q=false)->OpTo E o fr σ fr σ'
structure HvD (E:Env) (o:Oper) (FR:Fr) (σ:Sto) (k:Nat) (c:AV) (rs:List Nat) (σ' :Sto):Prop where
 go:∀fr,(∀x∈o.op.operands,fr.ev x=FR.ev x)->(∀q,FR.has q=false->fr.has q=false)->OpTo E o fr σ ((k,c)::fr.clrs rs) σ'
structure HvP (E:Env) (o:Oper) (FR:Fr) (σ:Sto) (rs:List Nat) (σ' :Sto):Prop where
 go:∀fr,(∀x∈o.op.operands,fr.ev x=FR.ev x)->(∀q,FR.has q=false->fr.has q=false)->OpTo E o fr σ (fr.clrs rs) σ'
def allT(l:List Oper):List Bool:=List.replicate l.length true
def kLb(cs:List (Option AV))(rs:List Nat):Bool:=cs.all fun c=>match c with | some c=>rs.all fun r=> !c.has r | none=>true
inductive z4b (E:Env) (l:List Oper) (cs:List (Option AV)) (all:List Node) (H:List Bool) (fr:Fr) (σ:Sto) (i:Nat):Prop
 | pure {o:Oper} {c:AV} (ho:l[i]? =some o) (hc:cs[i]? =some (some c)) (h:OpG E o (purF l cs (allT l)++fr) σ c)
 | sto {o:Oper} {σ' σ2:Sto} {fr2:Fr} (j:Nat) (ho:l[i]? =some o) (hc:cs[i]? =some none) (h:HvS E o (purF l cs (allT l)++fr) σ σ') (hn:all[j]? =some (H.set i true,fr2,σ2)) (hf:FrLe fr fr2) (hs:kza σ' σ2)
 | dst {o:Oper} {k:Nat} {c:AV} {rs:List Nat} {σ' σ2:Sto} {fr2:Fr} (j:Nat) (ho:l[i]? =some o) (hc:cs[i]? =some none) (hk:((List.range l.length).all fun i=>yna l cs i !=some k)=true) (hrs:kLb cs rs=true)
  (h:HvD E o (purF l cs (allT l)++fr) σ k c rs σ') (hn:all[j]? =some (H.set i true,fr2,σ2)) (hf:FrLe ((k,c)::fr.clrs rs) fr2) (hs:kza σ' σ2)
 | put {o:Oper} {rs:List Nat} {σ' σ2:Sto} {fr2:Fr} (j:Nat) (ho:l[i]? =some o) (hc:cs[i]? =some none) (hrs:kLb cs rs=true)
  (h:HvP E o (purF l cs (allT l)++fr) σ rs σ') (hn:all[j]? =some (H.set i true,fr2,σ2)) (hf:FrLe (fr.clrs rs) fr2) (hs:kza σ' σ2)
inductive waa (E:Env) (l:List Oper) (cs:List (Option AV)) (all:List Node) (H:List Bool) (fr:Fr) (σ:Sto):List Nat->Prop
 | nil:waa E l cs all H fr σ []
 | cons {i:Nat} {is:List Nat} (h:z4b E l cs all H fr σ i) (r:waa E l cs all H fr σ is):waa E l cs all H fr σ (i::is)
def isHv(cs:List (Option AV))(i:Nat):Bool:=match cs[i]? with | some none=>true | _=>false
def mayL(l:List Oper)(cs:List (Option AV))(H:List Bool):List Nat:=(List.range l.length).filter fun i=>
 !(H.getD i false) && (List.range l.length).all fun j=> !(isHv cs j) || ((!(((w1a l l.length).getD i 0).testBit j) || H.getD j false) && (!(H.getD j false) || !(((w1a l l.length).getD j 0).testBit i)))
inductive z5b (E:Env) (l:List Oper) (cs:List (Option AV)) (K:Post) (all:List Node):Node->Prop
 | full {H:List Bool} {fr:Fr} {σ:Sto} (is:List Nat) (hD:mayL l cs H=is) (hs:waa E l cs all H fr σ is) {frJ:Fr} {σJ:Sto} (hf:FrLe (purF l cs (allT l)++fr) frJ) (hso:kza σ σJ) (h:K .normal frJ σJ):z5b E l cs K all (H,fr,σ)
 | step {H:List Bool} {fr:Fr} {σ:Sto} (is:List Nat) (hD:mayL l cs H=is) (hn:((List.range l.length).all fun i=> !(isHv cs i) || H.getD i false)=false) (hs:waa E l cs all H fr σ is):z5b E l cs K all (H,fr,σ)
inductive j7a (E:Env) (l:List Oper) (cs:List (Option AV)) (K:Post) (all:List Node):List Node->Prop
 | nil:j7a E l cs K all []
 | cons {nd:Node} {r:List Node} (h:z5b E l cs K all nd) (hr:j7a E l cs K all r):j7a E l cs K all (nd::r)
theorem waa.get{l:List Oper}{cs:List (Option AV)}{all:List Node}{H:List Bool}{is:List Nat}(h:waa E l cs all H fr σ is){i:Nat}(hi:i∈is):z4b E l cs all H fr σ i:=by
 induction h with
 | nil=>cases hi
 | cons h _ ih=>
  rcases jCd.1 hi with rfl | hi
  .exact h
  exact ih hi
theorem j7a.get{l:List Oper}{cs:List (Option AV)}{all r:List Node}(h:j7a E l cs K all r){nd:Node}(hi:nd∈r):z5b E l cs K all nd:=by
 induction h with
 | nil=>cases hi
 | cons h _ ih=>
  rcases jCd.1 hi with rfl | hi
  .exact h
  exact ih hi
def kMb(N:Nat)(l:List Oper)(cs:List (Option AV)):Bool:=
 wHa .any l.toArray && Nat.beq cs.length l.length && (l.all fun o=>o.guard.isNone) &&
 (l.all fun o=>o.dst.all fun d=>Nat.ble (d+1) N) &&
 ((List.range l.length).all fun i=>isHv cs i || (yna l cs i).isSome) &&
 ((List.range l.length).all fun i=>(List.range l.length).all fun j=>Nat.beq i j || (yna l cs i).isNone || yna l cs i !=yna l cs j) &&
 (l.all fun o=>(kFb o).all fun t=>(List.range l.length).all fun j=>yna l cs j !=some t || jva o j)
theorem j8a{rs:List Nat}{c:AV}(h:(rs.all fun r=> !c.has r)=true):c.clrs rs=c:=by
 unfold AV.clrs;have:(rs.any fun r=>c.has r)=false:=by
  rw[jCr];intro r hr;have:=jAw.1 h r hr;simpa using this
 rw[this];rfl
theorem Qka{id:Nat}{l:List Oper}(cs:List (Option AV))(all:List Node){H0:List Bool}{fr0:Fr}{σ0:Sto}(hmix:E.P.follows .mixedOrders=true)(hok:kMb E.N l cs=true)(h0:all[0]? =some (H0,fr0,σ0))(hH0:H0=List.replicate l.length false)
 (hf:FrLe fr fr0) (hs:kza σ σ0) (h:j7a E l cs K all all):AWP E (.region id l.toArray true) fr σ K:=by
 simp only[kMb,jAs,jAw]at hok;obtain ⟨⟨⟨⟨⟨⟨hlb,hlen⟩,hgd⟩,hN⟩,hall⟩,hdist⟩,hdat⟩:=hok;have hlen:=jAo hlen;have hdl:∀i d,yna l cs i=some d->i < l.length:=by
  intro i d hd;rcases jBg i l.length with h1 | h1
  .exact h1
  unfold yna at hd;rw[jDv (by omega)]at hd;cases hd
 have hdist' :∀i j d,yna l cs i=some d->yna l cs j=some d->i=j:=by
  intro i j d h1 h2;have:=hdist i (by simpa using hdl i d h1) j (by simpa using hdl j d h2);simp only[jBx,bne_iff_ne,ne_eq]at this;rcases this with (h3 | h3) | h3
  .exact jAo h3
  .rw[h1]at h3;cases h3
  exact absurd (h1.trans h2.symm) h3
 have hdirD:∀{D:Nat->Bool} {o:Oper} {j:Nat},(∀e∈o.after,Region.binds .any e=true->D e.on=true)->jva o j=true->D j=true:=by
  intro D o j he hd;simp only[jva,List.any_eq_true,jAs]at hd;obtain ⟨e,h1,h2,h3⟩:=hd;rw[<-jAo h3];exact he e (by simpa using h1) h2
 let bits:(Nat->Bool)->List Bool:=fun D=>(List.range l.length).map D
 have hbl:∀D,(bits D).length=l.length:=fun D=>by simp[bits]
 have hbg:∀D i,i < l.length->(bits D).getD i false=D i:=fun D i hi=>by simp[bits,jAm,hi]
 have hTl:(allT l).length=l.length:=by simp[allT]
 have hTg:∀i,i < l.length->(allT l).getD i false=true:=fun i hi=>by simp[allT,jAm,hi]
 have hslot:∀d,(∃i c,yna l cs i=some d/\cs[i]? =some (some c)/\i < l.length)∨(∀i,yna l cs i≠some d):=by
  intro d;by_cases hex:∃i,yna l cs i=some d
  .obtain ⟨i,hi⟩:=hex;refine .inl ⟨i,?_⟩;have hil:=hdl i d hi;cases hc:cs[i]? with
   | none=>unfold yna at hi;rw[hc]at hi;cases hi
   | some x=>
    cases x with
    | none=>unfold yna at hi;rw[hc]at hi;cases hi
    | some c=>exact ⟨c,hi,rfl,hil⟩
  exact .inr fun i hi=>hex ⟨i,hi⟩
 have hev:∀(D:Nat->Bool) (o:Oper) (frA:Fr),o∈l->(∀e∈o.after,Region.binds .any e=true->D e.on=true)->∀x∈o.op.operands,(purF l cs (bits D)++frA).ev x=(purF l cs (allT l)++frA).ev x:=by
  intro D o frA hm he x hx;cases x with
  | const v=>rfl
  | global q=>rfl
  | func f=>rfl
  | tmp t=>
   show (purF l cs (bits D)++frA).get t=(purF l cs (allT l)++frA).get t;rcases hslot t with ⟨i,c,h1,h2,h3⟩ | h1
   .rw[qFa l cs (bits D) i c t hdist' (by rw[hbl];omega) h1 h2,qFa l cs (allT l) i c t hdist' (by rw[hTl];omega) h1 h2,hbg D i h3,hTg i h3];have:=hdat o hm t (by simp only[kFb,jDm];exact ⟨.tmp t,by simpa using hx,rfl⟩) i (by simpa using h3);simp only[jBx,bne_iff_ne,ne_eq]at this;rcases this with h4 | h4
    .exact absurd h1 h4
    rw[hdirD he h4]
   rw[kZa l cs _ t h1,kZa l cs _ t h1]
 have hhas:∀(D:Nat->Bool) (frA:Fr) q,(purF l cs (allT l)++frA).has q=false->(purF l cs (bits D)++frA).has q=false:=by
  intro D frA q hq;rw[Fr.has_append,Bool.or_eq_false_iff]at hq ⊢;refine ⟨?_,hq.2⟩;cases hb:Fr.has q (purF l cs (bits D)) with
  | false=>rfl
  | true=>
   have:=YQa q l cs (bits D) (allT l) (by rw[hbl];rfl) hb;rw[this]at hq;cases hq.1
 let J:(Nat->Bool)->Act->World->Prop:=fun D a w=>(∀i o,l[i]? =some o->D i=true->∀e∈o.after,Region.binds .any e=true->D e.on=true)/\
  ∃nd∈all,nd.1.length=l.length/\(∀i,i < l.length->isHv cs i=true->D i=nd.1.getD i false)/\(∀i,i < l.length->isHv cs i=false->nd.1.getD i false=false)/\∃g,g.w=w/\St E g a (purF l cs (bits D)++nd.2.1) nd.2.2
 refine ⟨fun g a hst=>yma hmix hlb J ?_ ?_ ?_⟩
 .refine ⟨fun i o _ hd=>by simp at hd,_,jAe h0,by subst hH0;simp,fun i hi _=>by subst hH0;simp[jAm,hi],fun i hi _=>by subst hH0;simp[jAm,hi],⟨g.w.drew,g.u,g.loc⟩,rfl,(hst.le (fun d=>?_) hs).drew⟩;rcases hslot d with ⟨i,c,h1,h2,h3⟩ | h1
  .rw[qFa l cs _ i c d hdist' (by rw[hbl];omega) h1 h2,hbg _ i h3];exact .inl rfl
  rw[kZa l cs _ d h1];exact hf d
 .rintro D a w ⟨_,⟨H,frA,σA⟩,hm,hl,hD,_,g,rfl,hst'⟩ hfin;have hfin' :∀i,i < l.length->D i=true:=fun i hi=>hfin i (by simpa using hi)
  cases h.get hm with
  | full is _ _ hfJ hsJ hk=>
   refine ⟨g,_,_,rfl,St.le ?_ hfJ hsJ,hk⟩;have:bits D=allT l:=by
    apply List.ext_getElem (by rw[hbl,hTl]);intro i h1 h2;have hi:i < l.length:=by rw[hbl]at h1;exact h1
    simp[bits,allT,hfin' i hi]
   rw[<-this];exact hst'
  | step is _ hn _=>
   exfalso;have:((List.range l.length).all fun i=> !(isHv cs i) || H.getD i false)=true:=by
    rw[jAw];intro i hi;have hi:i < l.length:=by simpa using hi
    cases hh:isHv cs i with
    | false=>rfl
    | true=>rw[<-hD i hi hh,hfin' i hi];rfl
   rw[this]at hn;cases hn
 rintro D a w i o ⟨hcl,⟨H,frA,σA⟩,hm,hl,hD,hD0,g,rfl,hst'⟩ ho hDi he;have ho' :l[i]? =some o:=by simpa using ho
 have hil:i < l.length:=(jAc.1 ho').1;have hom:o∈l:=jAe ho';have hgo:o.guard=none:=by simpa using hgd o hom
 have hcl' :∀i' o',l[i']? =some o' ->upd D i i' =true->∀e∈o'.after,Region.binds .any e=true->upd D i e.on=true:=by
  intro i' o' h1 h2 e h3 h4;unfold upd at h2 ⊢;split
  .rfl
  split at h2
  .rename_i hii;subst hii;rw[ho']at h1;cases h1;exact he e h3 h4
  exact hcl i' o' h1 h2 e h3 h4
 have hmay:i∈mayL l cs H:=by
  simp only[mayL,jCw,jDk,jAs,jCb,jAw,jBx];refine ⟨hil,?_,fun j hj=>?_⟩
  .cases hh:isHv cs i with
   | true=>rw[<-hD i hil hh];exact hDi
   | false=>exact hD0 i hil hh
  cases hh:isHv cs j with
  | false=>exact .inl rfl
  | true=>
   refine .inr ⟨?_,?_⟩
   .cases hb:((w1a l l.length).getD i 0).testBit j with
    | false=>exact .inl rfl
    | true=>exact .inr (by rw[<-hD j hj hh];exact Z6a hcl l.length i o ho' he j hb)
   cases hHj:H.getD j false with
   | false=>exact .inl rfl
   | true=>
    refine .inr ?_;cases hb:((w1a l l.length).getD j 0).testBit i with
    | false=>rfl
    | true=>
     have:=j3a hcl l.length j i hb (by rw[hD j hj hh];exact hHj);rw[hDi]at this;cases this
 have hstep:z4b E l cs all H frA σA i:=by
  cases h.get hm with
  | full is hD2 hs _ _ _=>exact (hD2▸hs:waa E l cs all H frA σA (mayL l cs H)).get hmay
  | step is hD2 _ hs=>exact (hD2▸hs:waa E l cs all H frA σA (mayL l cs H)).get hmay
 have hw:Region.wanted o (yielded l.toArray a.tmps)=true:=by simp[Region.wanted,hgo]
 have hheavy:∀(_:cs[i]? =some none),(∀k,k < l.length->isHv cs k=true->upd D i k=(H.set i true).getD k false)/\(∀k,k < l.length->isHv cs k=false->(H.set i true).getD k false=false)/\∀frX d,(purF l cs (bits (upd D i))++frX).get d=(purF l cs (bits D)++frX).get d:=by
  intro hc;have hhv:isHv cs i=true:=by unfold isHv;rw[hc]
  refine ⟨fun k hk hh=>?_,fun k hk hh=>?_,fun frX d=>?_⟩
  .unfold upd;simp only[jAm,jDs];by_cases hki:k=i
   .subst hki;simp[hl,hk]
   rw[if_neg hki,if_neg (Ne.symm hki),<-jAm];exact hD k hk hh
  .have hki:k≠i:=by rintro rfl;rw[hhv]at hh;cases hh
   simp only[jAm,jDs];rw[if_neg (Ne.symm hki),<-jAm];exact hD0 k hk hh
  rcases hslot d with ⟨j,c,h1,h2,h3⟩ | h1
  .rw[qFa l cs _ j c d hdist' (by rw[hbl];omega) h1 h2,qFa l cs _ j c d hdist' (by rw[hbl];omega) h1 h2,hbg _ j h3,hbg _ j h3];have hji:j≠i:=by rintro rfl;rw[hc]at h2;cases h2
   unfold upd;rw[if_neg hji]
  rw[kZa l cs _ d h1,kZa l cs _ d h1]
 unfold wpOpIn;rw[ho];simp only[hw,if_true];cases hstep with
 | @pure o2 c ho2 hc hop=>
  rw[ho']at ho2;cases ho2;have hhv:isHv cs i=false:=by unfold isHv;rw[hc]
  have hops:∀x∈o.op.operands,Rel g ((purF l cs (allT l)++frA).ev x) (a.eval x):=fun x hx=>by
   rw[<-hev D o frA hom he x hx];exact hst'.ev x
  obtain ⟨d,hd⟩:∃d,yna l cs i=some d:=by
   have:=hall i (by simpa using hil);rw[hhv]at this;simpa[Option.isSome_iff_exists]using this
  have hod:o.dst=some d:=by
   unfold yna at hd;rw[hc,ho']at hd;simpa using hd
  refine hop.go g a _ _ hops hst'.so fun g' v h1 h2 h3 h4=>⟨hcl',(H,frA,σA),hm,hl,fun k hk hh=>?_,hD0,g',rfl,?_⟩
  .have hki:k≠i:=by rintro rfl;rw[hhv]at hh;cases hh
   unfold upd;rw[if_neg hki];exact hD k hk hh
  have hdN:d < E.N:=by
   have:=hN o hom;rw[hod]at this;exact jAd (by simpa using this)
  have hsz:=hst'.n;refine ⟨fun d' =>?_,by rw[hod];simp[Act.put,hsz],by rw[hod];exact hst'.df.mono h1.ext,hst'.so.grow h1 h2 (fun k _=>by rw[h3])⟩;have hget:(a.put o.dst v).tmps.getD d' undef=if d=d' then v else a.tmps.getD d' undef:=by
   rw[hod];simp only[Act.put];rw[vTa];by_cases h5:d=d'
   .rw[if_pos ⟨h5,by omega⟩,if_pos h5]
   rw[if_neg (fun x=>h5 x.1),if_neg h5]
  rw[hget];by_cases h5:d=d'
  .subst h5;rw[if_pos rfl,qFa l cs _ i c d hdist' (by rw[hbl];omega) hd hc,hbg _ i hil];have:upd D i i=true:=by unfold upd;rw[if_pos rfl]
   rw[this];exact h4
  rw[if_neg h5];have hsame:(purF l cs (bits (upd D i))++frA).get d' =(purF l cs (bits D)++frA).get d' :=by
   rcases hslot d' with ⟨j,c',q1,q2,q3⟩ | q1
   .rw[qFa l cs _ j c' d' hdist' (by rw[hbl];omega) q1 q2,qFa l cs _ j c' d' hdist' (by rw[hbl];omega) q1 q2,hbg _ j q3,hbg _ j q3];have hji:j≠i:=by rintro rfl;rw[hd]at q1;cases q1;exact h5 rfl
    unfold upd;rw[if_neg hji]
   rw[kZa l cs _ d' q1,kZa l cs _ d' q1]
  rw[hsame];exact (hst'.fr d').mono h1.ext (fun k _=>by rw[h3])
 | @sto o2 σ' σ2 fr2 j ho2 hc hop hn hf2 hs2=>
  rw[ho']at ho2;cases ho2;obtain ⟨q1,q2,q3⟩:=hheavy hc;refine (hop.go _ (hev D o frA hom he) (hhas D frA)).go g a _ _ hst' fun g' a' hst2=>⟨hcl',_,jAe hn,by simp[hl],q1,q2,g',rfl,hst2.le (fun d=>?_) hs2⟩
  rw[q3];rcases hslot d with ⟨k,c,h1,h2,h3⟩ | h1
  .rw[qFa l cs _ k c d hdist' (by rw[hbl];omega) h1 h2,qFa l cs _ k c d hdist' (by rw[hbl];omega) h1 h2];exact .inr (.inl rfl)
  rw[kZa l cs _ d h1,kZa l cs _ d h1];exact hf2 d
 | @dst o2 k c rs σ' σ2 fr2 j ho2 hc hk hrs hop hn hf2 hs2=>
  rw[ho']at ho2;cases ho2;obtain ⟨q1,q2,q3⟩:=hheavy hc;refine (hop.go _ (hev D o frA hom he) (hhas D frA)).go g a _ _ hst' fun g' a' hst2=>⟨hcl',_,jAe hn,by simp[hl],q1,q2,g',rfl,hst2.le (fun d=>?_) hs2⟩
  rw[q3];rcases hslot d with ⟨m,c',h1,h2,h3⟩ | h1
  .have hkd:k≠d:=by
    rintro rfl;have:=jAw.1 hk m (by simpa using h3);simp[h1]at this
   rw[Fr.get_cons,if_neg hkd,Fr.get_clrs,qFa l cs _ m c' d hdist' (by rw[hbl];omega) h1 h2,qFa l cs _ m c' d hdist' (by rw[hbl];omega) h1 h2];refine .inr (.inl ?_);cases (bits D).getD m false with
   | false=>exact j8a (by rw[jAw];intro r _;rfl)
   | true=>
    refine j8a ?_;have:=jAw.1 hrs _ (jAe h2);exact this
  have:=hf2 d;rw[Fr.get_cons,Fr.get_clrs]at this ⊢;rw[kZa l cs _ d h1,kZa l cs _ d h1];exact this
 | @put o2 rs σ' σ2 fr2 j ho2 hc hrs hop hn hf2 hs2=>
  rw[ho']at ho2;cases ho2;obtain ⟨q1,q2,q3⟩:=hheavy hc;refine (hop.go _ (hev D o frA hom he) (hhas D frA)).go g a _ _ hst' fun g' a' hst2=>⟨hcl',_,jAe hn,by simp[hl],q1,q2,g',rfl,hst2.le (fun d=>?_) hs2⟩
  rw[q3];rcases hslot d with ⟨m,c',h1,h2,h3⟩ | h1
  .rw[Fr.get_clrs,qFa l cs _ m c' d hdist' (by rw[hbl];omega) h1 h2,qFa l cs _ m c' d hdist' (by rw[hbl];omega) h1 h2];refine .inr (.inl ?_);cases (bits D).getD m false with
   | false=>exact j8a (by rw[jAw];intro r _;rfl)
   | true=>
    refine j8a ?_;have:=jAw.1 hrs _ (jAe h2);exact this
  have:=hf2 d;rw[Fr.get_clrs]at this ⊢;rw[kZa l cs _ d h1,kZa l cs _ d h1];exact this
section
variable {FR:Fr} {ty:TypeId} {pos:String} {af:Array Edge} {gu:Option (Nat × Bool)} {T:Tab} {P:Program} {id k r size bytes:Nat} {e t:TypeId} {zero:Value} {d:TypeDesc}
theorem mqz{o:Oper}{c:AV}(hT:kVa E.P T)(h:qval T FR.ev σ o.op=some c):OpG E o FR σ c:=zpa (VBa hT h)
theorem Qla{o:Oper}{fr' fr2:Fr}{σ' σ2:Sto}(h:OpTo E o fr σ fr' σ')(hf:FrLe fr' fr2)(hs:kza σ' σ2):OpTo E o fr σ fr2 σ2:=
 ⟨fun g a K Q hst hK=>h.go g a K Q hst fun g' a' h' =>hK g' a' (h'.le hf hs)⟩
theorem kGa:kza σ σ:=fun _ _ h=>.inl h
theorem ZCa{c:AV}:FrLe ((k,c)::fr) ((k,c)::fr.clrs []):=fun d=>by
 rw[Fr.get_cons,Fr.get_cons,Fr.get_clrs,j8a rfl];exact .inr (.inl rfl)
theorem qtb{c:AV}:FrLe ((k,c)::fr.clr r) ((k,c)::fr.clrs [r]):=fun d=>by
 rw[Fr.get_cons,Fr.get_cons,Fr.get_clrs,Fr.get_clr];refine .inr (.inl ?_);split
 .rfl
 simp[AV.clr,AV.clrs]
theorem yHa{x y:Operand}{o off:Nat}{cs vs:List AV}(hx:FR.ev x=.ptr o off)(ho:σ.get o=some (.cells cs))(hy:(FR.ev y).cells=some vs)(ht:TyOk E.P t size bytes zero d)(hz:Nat.beq vs.length size=true)(hle:Nat.ble (off+vs.length) cs.length=true):
 HvS E ⟨none,.store t x y,ty,pos,af,gu⟩ FR σ (σ.upd o (.cells (ZNa cs off vs))):=
 ⟨fun fr he _=>WVa ((he x (by simp[Op.operands,Call.operands])).trans hx) ho (by rw[he y (by simp[Op.operands,Call.operands])];exact hy) ht hz hle⟩
theorem YRa(id:Nat){cs:List AV}(hN:Nat.ble (k+1) E.N=true)(ht:TyOk E.P t size bytes zero d)(hz:(vla zero).cells=some cs∨zero.cells.toList.map vla=cs/\zero.cells.toList.all cellV=true)(hf:FR.has id=false)(hs:σ.has id=false)(hcs:AV.hasL id cs=false):
 HvD E ⟨some k,.alloc t,ty,pos,af,gu⟩ FR σ k (.ptr id 0) [] ((id,.cells cs)::σ):=
 ⟨fun fr _ hh=>Qla (Zwa id hN ht hz (hh id hf) hs hcs) ZCa kGa⟩
theorem YSa{f:FuncId}{xs:List Operand}{ats:Array TypeId}{args:List AV}{els:List (List PV)}(r:Nat)(hr:RunO E.P f args e size els)(hN:Nat.ble (k+1) E.N=true)(hf:FR.has r=false)(hs:σ.has r=false)(ha:xs.map (fun x=>(FR.ev x).weak)=args):
 HvD E ⟨some k,.call ⟨.value (.func f),xs.toArray,ats⟩,ty,pos,af,gu⟩ FR σ k (.hs r 0) [] ((r,.row e true size els)::σ):=
 ⟨fun fr he hh=>Qla (ZAa r hr hN (hh r hf) hs (by
  rw[<-ha];refine List.map_congr_left fun x hx=>?_
  rw[he x (by simp[Op.operands,Call.operands,hx])])) ZCa kGa⟩
theorem VIa{α:Type}{F:α->List PV}{l xs r' :List α}{lim sb ss:Nat}{nl:Option Bool}{x y:Operand}{mu:Bool}{sz:Value}(hN:Nat.ble (k+1) E.N=true)(hx:FR.ev x=.hs r 0)(hr:σ.get r=some (.row e mu size (l.map F)))(hy:FR.ev y=.pv (.sl nl (xs.map F)))(ht:TyOk E.P t ss sb sz (.slice e))(he:TyOk E.P e size bytes zero d)
 (hzz:Nat.beq zero.cells.size size=true) (hs:Nat.ble 1 size=true) (hF:∀x,(F x).length=size) (hlim:(Nat.ble (lim * bytes) 140737488355328 && Nat.ble lim 9223372036854775807)=true) (h:app lim l xs=some r'):
 HvD E ⟨some k,.call ⟨.builtin .append, #[x,y], #[t,t]⟩,ty,pos,af,gu⟩ FR σ k (.hs r 0) [r] ((σ.clr r).upd r (.row e mu size (r'.map F))):=
 ⟨fun fr hE _=>Qla (wxa hN ((hE x (by simp[Op.operands,Call.operands])).trans hx) hr ((hE y (by simp[Op.operands,Call.operands])).trans hy) ht he hzz hs hF hlim h) qtb kGa⟩
end
end
section
def wu64(n:Int):Int:=n % 18446744073709551616
theorem ZDa(n:Int):IntKind.u64.wrap n=wu64 n:=by simp[IntKind.wrap,IntKind.bits,IntKind.signed,wu64]
def uOr(a b:Int):Int:=((BitVec.ofInt 64 a ||| BitVec.ofInt 64 b).toNat:Int)
def uAnd(a b:Int):Int:=((BitVec.ofInt 64 a &&& BitVec.ofInt 64 b).toNat:Int)
def uXor(a b:Int):Int:=((BitVec.ofInt 64 a ^^^ BitVec.ofInt 64 b).toNat:Int)
def uQuo(a b:Int):Int:=wu64 (a.tdiv b)
def uRem(a b:Int):Int:=a.tmod b
def uShl(a n:Int):Int:=wu64 (a * 2 ^ min n.toNat 64)
def uShr(a n:Int):Int:=a / 2 ^ min n.toNat 64
def nng(b:Int):Option Bool:=if 0<=b then some true else none
theorem w7a{b:Int}{r:Bool}(h:nng b=some r):0<=b:=by
 unfold nng at h;split at h
 .assumption
 cases h
theorem wu64_bv(v:BitVec 64):wu64 (v.toNat:Int)=(v.toNat:Int):=by
 have:=v.isLt;unfold wu64;omega
section
variable {P:Program} {ρ:Operand->AV} {σ:Sto} {dst:Option Tmp} {ty:TypeId} {pos:String} {af:Array Edge} {gu:Option (Nat × Bool)} {x y:Operand} {t t' :TypeId} {ss sb ss' sb' :Nat} {sz sz' :Value} {a b n:Int}
theorem wMa(hx:ρ x=.i n)(ha:TyOk P t ss sb sz (.int .i64))(hb:TyOk P t' ss' sb' sz' (.int .u64)):EvQ P ⟨dst,.convert t t' x,ty,pos,af,gu⟩ ρ σ (.pv (.b (.int .u64 (wu64 n)))):=
 ⟨fun c=>by simp,fun g ρv h _=>by
  have h1:=h x (by simp[Op.operands]);rw[hx]at h1;have e1:=kga h1;refine ⟨.int .u64 (wu64 n),?_,.pv (.b rfl)⟩;simp[execOp,convert,e1,go_sem,underlying,ha.u,hb.u,Conv.intToInt,ZDa]⟩
theorem j9a(hx:ρ x=.pv (.b (.int .u64 n)))(ha:TyOk P t ss sb sz (.int .u64))(hb:TyOk P t' ss' sb' sz' (.int .i64)):EvQ P ⟨dst,.convert t t' x,ty,pos,af,gu⟩ ρ σ (.i (w64 n)):=
 ⟨fun c=>by simp,fun g ρv h _=>by
  have h1:=h x (by simp[Op.operands]);rw[hx]at h1;have e1:=kga h1;refine ⟨.int .i64 (w64 n),?_,.pv (.b rfl)⟩;simp[execOp,convert,e1,go_sem,underlying,ha.u,hb.u,Conv.intToInt]⟩
theorem yIa(hx:ρ x=.pv (.b (.int .u64 n)))(ha:TyOk P t ss sb sz (.int .u64))(hb:TyOk P t' ss' sb' sz' (.int .u8)):EvQ P ⟨dst,.convert t t' x,ty,pos,af,gu⟩ ρ σ (.u8 (toU8 n)):=
 ⟨fun c=>by simp,fun g ρv h _=>by
  have h1:=h x (by simp[Op.operands]);rw[hx]at h1;have e1:=kga h1;refine ⟨.int .u8 (toU8 n).toNat,?_,.pv (.b rfl)⟩;simp[execOp,convert,e1,go_sem,underlying,ha.u,hb.u,Conv.intToInt,zHb]⟩
theorem KDa{c:UInt8}(hx:ρ x=.u8 c)(ha:TyOk P t ss sb sz (.int .u8))(hb:TyOk P t' ss' sb' sz' (.int .u64)):EvQ P ⟨dst,.convert t t' x,ty,pos,af,gu⟩ ρ σ (.pv (.b (.int .u64 (c.toNat:Int)))):=
 ⟨fun c=>by simp,fun g ρv h _=>by
  have h1:=h x (by simp[Op.operands]);rw[hx]at h1;have e1:=kga h1;have hlt:=c.toNat_lt;have hw:IntKind.u64.wrap (c.toNat:Int)=c.toNat:=by rw[ZDa];unfold wu64;omega
  refine ⟨.int .u64 c.toNat,?_,.pv (.b rfl)⟩;simp[execOp,convert,e1,go_sem,underlying,ha.u,hb.u,Conv.intToInt,hw]⟩
theorem vHb{op:BinOp}{r:Int}(hx:ρ x=.pv (.b (.int .u64 a)))(hy:ρ y=.pv (.b (.int .u64 b)))(hr:(op=.add/\r=wu64 (a+b))∨(op=.sub/\r=wu64 (a - b))∨(op=.mul/\r=wu64 (a * b))):EvQ P ⟨dst,.binOp op t x y t',ty,pos,af,gu⟩ ρ σ (.pv (.b (.int .u64 r))):=
 ⟨fun c=>by simp,fun g ρv h _=>by
  obtain ⟨h1,h2⟩:=ops2 (o:=⟨dst,.binOp op t x y t',ty,pos,af,gu⟩) (x:=x) (y:=y) rfl h;rw[hx]at h1;rw[hy]at h2;have e1:=kga h1;have e2:=kga h2;refine ⟨.int .u64 r,?_,.pv (.b rfl)⟩;rcases hr with ⟨rfl,rfl⟩ | ⟨rfl,rfl⟩ | ⟨rfl,rfl⟩ <;> simp[execOp,e1,e2,go_sem,eqGuard,binOp,Op.intArith,ZDa]⟩
theorem vIb(hx:ρ x=.pv (.b (.int .u64 a)))(hy:ρ y=.pv (.b (.int .u64 b))):EvQ P ⟨dst,.binOp .mul t x y t',ty,pos,af,gu⟩ ρ σ (.pv (.b (.int .u64 (wu64 (a * b))))):=vHb hx hy (.inr (.inr ⟨rfl,rfl⟩))
theorem kNb{op:BinOp}{r:Int}(hx:ρ x=.pv (.b (.int .u64 a)))(hy:ρ y=.pv (.b (.int .u64 b)))(hr:(op=.or/\r=uOr a b)∨(op=.and/\r=uAnd a b)∨(op=.xor/\r=uXor a b)):EvQ P ⟨dst,.binOp op t x y t',ty,pos,af,gu⟩ ρ σ (.pv (.b (.int .u64 r))):=
 ⟨fun c=>by simp,fun g ρv h _=>by
  obtain ⟨h1,h2⟩:=ops2 (o:=⟨dst,.binOp op t x y t',ty,pos,af,gu⟩) (x:=x) (y:=y) rfl h;rw[hx]at h1;rw[hy]at h2;have e1:=kga h1;have e2:=kga h2;refine ⟨.int .u64 r,?_,.pv (.b rfl)⟩;rcases hr with ⟨rfl,rfl⟩ | ⟨rfl,rfl⟩ | ⟨rfl,rfl⟩ <;> (simp[execOp,e1,e2,go_sem,eqGuard,binOp,Op.intBits];exact (ZDa _).trans (wu64_bv _))⟩
theorem vJb(hx:ρ x=.pv (.b (.int .u64 a)))(hy:ρ y=.pv (.b (.int .u64 b))):EvQ P ⟨dst,.binOp .or t x y t',ty,pos,af,gu⟩ ρ σ (.pv (.b (.int .u64 (uOr a b)))):=kNb hx hy (.inl ⟨rfl,rfl⟩)
theorem vKb(hx:ρ x=.pv (.b (.int .u64 a)))(hy:ρ y=.pv (.b (.int .u64 b))):EvQ P ⟨dst,.binOp .xor t x y t',ty,pos,af,gu⟩ ρ σ (.pv (.b (.int .u64 (uXor a b)))):=kNb hx hy (.inr (.inr ⟨rfl,rfl⟩))
theorem vLb{op:BinOp}{r:Int}(hx:ρ x=.pv (.b (.int .u64 a)))(hy:ρ y=.pv (.b (.int .u64 b)))(hb:(b==0)=false)(hr:(op=.quo/\r=uQuo a b)∨(op=.rem/\r=uRem a b)):EvQ P ⟨dst,.binOp op t x y t',ty,pos,af,gu⟩ ρ σ (.pv (.b (.int .u64 r))):=
 ⟨fun c=>by simp,fun g ρv h _=>by
  obtain ⟨h1,h2⟩:=ops2 (o:=⟨dst,.binOp op t x y t',ty,pos,af,gu⟩) (x:=x) (y:=y) rfl h;rw[hx]at h1;rw[hy]at h2;have e1:=kga h1;have e2:=kga h2;have hb:b≠0:=by simpa using hb
  refine ⟨.int .u64 r,?_,.pv (.b rfl)⟩;rcases hr with ⟨rfl,rfl⟩ | ⟨rfl,rfl⟩ <;> simp[execOp,e1,e2,go_sem,eqGuard,binOp,Op.intDiv,hb,uQuo,uRem,ZDa]⟩
theorem vMb(hx:ρ x=.pv (.b (.int .u64 a)))(hy:ρ y=.pv (.b (.int .u64 b)))(hb:(b==0)=false):EvQ P ⟨dst,.binOp .quo t x y t',ty,pos,af,gu⟩ ρ σ (.pv (.b (.int .u64 (uQuo a b)))):=vLb hx hy hb (.inl ⟨rfl,rfl⟩)
theorem vNb(hx:ρ x=.pv (.b (.int .u64 a)))(hy:ρ y=.pv (.b (.int .u64 b)))(hb:(b==0)=false):EvQ P ⟨dst,.binOp .rem t x y t',ty,pos,af,gu⟩ ρ σ (.pv (.b (.int .u64 (uRem a b)))):=vLb hx hy hb (.inr ⟨rfl,rfl⟩)
theorem JYa{op:BinOp}{r:Int}{yk:IntKind}(hx:ρ x=.pv (.b (.int .u64 a)))(hy:ρ y=.pv (.b (.int yk b)))(hb:0<=b)(hr:(op=.shl/\r=uShl a b)∨(op=.shr/\r=uShr a b)):EvQ P ⟨dst,.binOp op t x y t',ty,pos,af,gu⟩ ρ σ (.pv (.b (.int .u64 r))):=
 ⟨fun c=>by simp,fun g ρv h _=>by
  obtain ⟨h1,h2⟩:=ops2 (o:=⟨dst,.binOp op t x y t',ty,pos,af,gu⟩) (x:=x) (y:=y) rfl h;rw[hx]at h1;rw[hy]at h2;have e1:=kga h1;have e2:=kga h2;refine ⟨.int .u64 r,?_,.pv (.b rfl)⟩;have hnl:¬b < 0:=by omega
  have hp:(0:Int)<=2 ^ min b.toNat 64:=Int.le_of_lt (Int.pow_pos (by decide));rcases hr with ⟨rfl,rfl⟩ | ⟨rfl,rfl⟩
  .show Sem.run P (do let v <-(do eqGuard .shl t x y (ρv x) (ρv y);binOp .shl t (ρv x) (ρv y));pure (Next.value v)) g.w=_;rw[e1,e2];simp only[eqGuard,binOp,Op.shift,if_neg hnl,IntKind.bits,ZDa];rfl
  show Sem.run P (do let v <-(do eqGuard .shr t x y (ρv x) (ρv y);binOp .shr t (ρv x) (ρv y));pure (Next.value v)) g.w=_;rw[e1,e2];simp only[eqGuard,binOp,Op.shift,if_neg hnl,IntKind.bits,Int.fdiv_eq_ediv_of_nonneg _ hp];rfl⟩
theorem z6b{yk:IntKind}(hx:ρ x=.pv (.b (.int .u64 a)))(hy:ρ y=.pv (.b (.int yk b)))(hb:0<=b):EvQ P ⟨dst,.binOp .shl t x y t',ty,pos,af,gu⟩ ρ σ (.pv (.b (.int .u64 (uShl a b)))):=JYa hx hy hb (.inl ⟨rfl,rfl⟩)
theorem Qma{yk:IntKind}(hx:ρ x=.pv (.b (.int .u64 a)))(hy:ρ y=.pv (.b (.int yk b)))(hb:0<=b):EvQ P ⟨dst,.binOp .shr t x y t',ty,pos,af,gu⟩ ρ σ (.pv (.b (.int .u64 (uShr a b)))):=JYa hx hy hb (.inr ⟨rfl,rfl⟩)
end
end
structure zsa where
 Code:Int
 Index:Int
def zsa.pc(x:zsa):List PV:=[pI x.Code,pI x.Index]
structure yJa where
 Address:Str
 To:List Str
def yJa.pc(x:yJa):List PV:=[pS x.Address,pL cS x.To]
structure zba where
 Address:Str
 Notify:Int
def zba.pc(x:zba):List PV:=[pS x.Address,pI x.Notify]
structure zOa where
 From:Str
 To:List zba
 Id:Str
def zOa.pc(x:zOa):List PV:=[pS x.From,pL zba.pc x.To,pS x.Id]
structure zka where
 Name:Str
 Value:Str
def zka.pc(x:zka):List PV:=[pS x.Name,pS x.Value]
structure zIa where
 Fields:List zka
 Body:List UInt8
def zIa.pc(x:zIa):List PV:=[pL zka.pc x.Fields,pL cU x.Body]
structure kha where
 Envelope:zOa
 Message:zIa
def kha.pc(x:kha):List PV:=[pS x.Envelope.From,pL zba.pc x.Envelope.To,pS x.Envelope.Id,pL zka.pc x.Message.Fields,pL cU x.Message.Body]
structure zga where
 Recipient:zba
 Result:Int
 Busy:Bool
def zga.pc(x:zga):List PV:=[pS x.Recipient.Address,pI x.Recipient.Notify,pI x.Result,pB x.Busy]
structure zca where
 Id:Int
 Mail:kha
 Since:Int
 Tries:Int
 Due:Int
 To:List zga
def zca.pc(x:zca):List PV:=[pI x.Id,pS x.Mail.Envelope.From,pL zba.pc x.Mail.Envelope.To,pS x.Mail.Envelope.Id,pL zka.pc x.Mail.Message.Fields,pL cU x.Mail.Message.Body,pI x.Since,pI x.Tries,pI x.Due,pL zga.pc x.To]
structure zva where
 Entries:List zca
 Next:Int
def zva.pc(x:zva):List PV:=[pL zca.pc x.Entries,pI x.Next]
structure zwa where
 Entry:Int
 Domain:Str
 To:List Int
def zwa.pc(x:zwa):List PV:=[pI x.Entry,pS x.Domain,pL cI x.To]
structure zla where
 Entry:Int
 Number:Int
 Result:Int
def zla.pc(x:zla):List PV:=[pI x.Entry,pI x.Number,pI x.Result]
structure zfa where
 Kind:Int
 Now:Int
 Mail:kha
 Attempt:zwa
 Results:List Int
def zfa.pc(x:zfa):List PV:=[pI x.Kind,pI x.Now,pS x.Mail.Envelope.From,pL zba.pc x.Mail.Envelope.To,pS x.Mail.Envelope.Id,pL zka.pc x.Mail.Message.Fields,pL cU x.Mail.Message.Body,pI x.Attempt.Entry,pS x.Attempt.Domain,pL cI x.Attempt.To,pL cI x.Results]
structure zma where
 out:List UInt8
def zma.pc(x:zma):List PV:=[pL cU x.out]
structure zha where
 b:List UInt8
 bad:Bool
def zha.pc(x:zha):List PV:=[pL cU x.b,pB x.bad]
structure kda where
 b:List UInt8
 bad:Bool
def kda.pc(x:kda):List PV:=[pL cU x.b,pB x.bad]
def zN0(x:zwa):List AV:=[.i x.Entry,.s x.Domain,.l cI x.To]
def zN1(x:zfa):List AV:=[.i x.Kind,.i x.Now,.s x.Mail.Envelope.From,.l zba.pc x.Mail.Envelope.To,.s x.Mail.Envelope.Id,.l zka.pc x.Mail.Message.Fields,.l cU x.Mail.Message.Body,.i x.Attempt.Entry,.s x.Attempt.Domain,.l cI x.Attempt.To,.l cI x.Results]
def zN2(x:kha):List AV:=[.s x.Envelope.From,.l zba.pc x.Envelope.To,.s x.Envelope.Id,.l zka.pc x.Message.Fields,.l cU x.Message.Body]
def zN3(x:zOa):List AV:=[.s x.From,.l zba.pc x.To,.s x.Id]
def zN4(x:zca):List AV:=[.i x.Id,.s x.Mail.Envelope.From,.l zba.pc x.Mail.Envelope.To,.s x.Mail.Envelope.Id,.l zka.pc x.Mail.Message.Fields,.l cU x.Mail.Message.Body,.i x.Since,.i x.Tries,.i x.Due,.l zga.pc x.To]
def zN5(x:kha):List PV:=[pS x.Envelope.From,pL zba.pc x.Envelope.To,pS x.Envelope.Id,pL zka.pc x.Message.Fields,pL cU x.Message.Body]
def zN6(x:zfa):List PV:=[pI x.Kind,pI x.Now,pS x.Mail.Envelope.From,pL zba.pc x.Mail.Envelope.To,pS x.Mail.Envelope.Id,pL zka.pc x.Mail.Message.Fields,pL cU x.Mail.Message.Body,pI x.Attempt.Entry,pS x.Attempt.Domain,pL cI x.Attempt.To,pL cI x.Results]
section
open Go.RowKit Go.Lib Go.Proofs.Tryz
variable {E:Env} {fr:Fr} {σ:Sto} {K:Post} {T:Tab} {l:List Oper} {cs:List (Option AV)} {all:List Node} {H:List Bool}
theorem waa.of:∀{is:List Nat},(∀i∈is,z4b E l cs all H fr σ i)->waa E l cs all H fr σ is
 | [],_=>.nil
 | i::is,h=>.cons (h i (by simp)) (waa.of fun j hj=>h j (by simp[hj]))
def qub(T:Tab)(l:List Oper)(cs:List (Option AV))(fr:Fr)(σ:Sto)(i:Nat):Option AV:=(l[i]?).bind fun o=>qval T (purF l cs (allT l)++fr).ev σ o.op
def VJa(cs:List (Option AV))(i:Nat):Option AV:=(cs[i]?).bind id
def VKa(l:List Oper)(cs:List (Option AV))(H:List Bool)(is:List Nat):List Nat:=(mayL l cs H).filter fun i=> !is.contains i
theorem ms_all(hT:kVa E.P T)(is:List Nat)(h1:((VKa l cs H is).map (qub T l cs fr σ),(VKa l cs H is).all (fun i=>(VJa cs i).isSome))=((VKa l cs H is).map (VJa cs),true))(h2:waa E l cs all H fr σ is):waa E l cs all H fr σ (mayL l cs H):=by
 refine waa.of fun i hi=>?_
 by_cases hc:is.contains i=true
 .exact h2.get (by simpa using hc)
 have hm:i∈VKa l cs H is:=by
  unfold VKa;rw[jCw];exact ⟨hi,by simpa using hc⟩
 have e1:=congrArg Prod.fst h1;have e2:=congrArg Prod.snd h1;have hq:qub T l cs fr σ i=VJa cs i:=List.map_inj_left.1 e1 i hm;have hs:(VJa cs i).isSome=true:=jAw.1 e2 i hm;obtain ⟨c,hcc⟩:=Option.isSome_iff_exists.1 hs;rw[hcc]at hq;obtain ⟨o,ho,hv⟩:=Option.bind_eq_some_iff.1 hq;obtain ⟨x,hx,hxc⟩:=Option.bind_eq_some_iff.1 hcc;have hxc:x=some c:=hxc;subst hxc;exact .pure ho hx (zpa (VBa hT hv))
theorem mn(hT:kVa E.P T)(is:List Nat)(h1:(((List.range l.length).all fun i=> !(isHv cs i) || H.getD i false),(VKa l cs H is).map (qub T l cs fr σ),(VKa l cs H is).all (fun i=>(VJa cs i).isSome))=(false,(VKa l cs H is).map (VJa cs),true))(h2:waa E l cs all H fr σ is):z5b E l cs K all (H,fr,σ):=
 .step _ rfl (congrArg Prod.fst h1) (ms_all hT is (congrArg Prod.snd h1) h2)
theorem mf(hT:kVa E.P T)(is:List Nat)(frJ:Fr)(h1:((VKa l cs H is).map (qub T l cs fr σ),(VKa l cs H is).all (fun i=>(VJa cs i).isSome))=((VKa l cs H is).map (VJa cs),true))(h2:waa E l cs all H fr σ is)(hf:FrLe (purF l cs (allT l)++fr) frJ)(h:K .normal frJ σ):z5b E l cs K all (H,fr,σ):=
 .full _ rfl (ms_all hT is h1 h2) hf kGa h
theorem mst(j:Nat){i:Nat}{o:Oper}{σ' :Sto}(ho:l[i]? =some o)(h:HvS E o (purF l cs (allT l)++fr) σ σ')(e:(cs[i]?,all[j]?)=(some none,some (H.set i true,fr,σ'))):z4b E l cs all H fr σ i:=
 .sto j ho (congrArg Prod.fst e) h (congrArg Prod.snd e) qKa kGa
theorem mdt(j:Nat){i k:Nat}{o:Oper}{c:AV}{rs:List Nat}{σ' :Sto}(ho:l[i]? =some o)(h:HvD E o (purF l cs (allT l)++fr) σ k c rs σ')(e:(((List.range l.length).all fun i=>yna l cs i !=some k),kLb cs rs,cs[i]?,all[j]?)=(true,true,some none,some (H.set i true,(k,c)::fr.clrs rs,σ'))):z4b E l cs all H fr σ i:=
 .dst j ho (congrArg (fun x=>x.2.2.1) e) (congrArg (fun x=>x.1) e) (congrArg (fun x=>x.2.1) e) h (congrArg (fun x=>x.2.2.2) e) qKa kGa
theorem mpt(j:Nat){i:Nat}{o:Oper}{rs:List Nat}{σ' :Sto}(ho:l[i]? =some o)(h:HvP E o (purF l cs (allT l)++fr) σ rs σ')(e:(kLb cs rs,cs[i]?,all[j]?)=(true,some none,some (H.set i true,fr.clrs rs,σ'))):z4b E l cs all H fr σ i:=
 .put j ho (congrArg (fun x=>x.2.1) e) (congrArg (fun x=>x.1) e) h (congrArg (fun x=>x.2.2) e) qKa kGa
theorem hv_g{o:Oper}{k:Nat}{c:AV}(hk:o.dst=some k)(hN:Nat.ble (k+1) E.N=true)(h:OpG E o fr σ c):HvD E o fr σ k c [] σ:=
 ⟨fun f2 he _=>Qla (ZQa hk hN ⟨fun g a K Q hx=>h.go g a K Q fun x hm=>by rw[<-he x hm];exact hx x hm⟩) ZCa kGa⟩
theorem mz{id:Nat}(cs:List (Option AV))(mk:Fr->Sto->List Node)(hmix:E.P.follows .mixedOrders=true)(hok:(kMb E.N l cs,(mk fr σ)[0]?)=(true,some (List.replicate l.length false,fr,σ)))(h:j7a E l cs K (mk fr σ) (mk fr σ)):AWP E (.region id l.toArray true) fr σ K:=
 Qka cs (mk fr σ) hmix (congrArg Prod.fst hok) (congrArg Prod.snd hok) rfl qKa kGa h
end
section
open Go.RowKit Go.Lib Go.Proofs.Tryz
variable {E:Env} {fr:Fr} {σ:Sto} {K:Post} {T:Tab} {l:List Oper} {cs:List (Option AV)} {all:List Node} {H:List Bool}
def tget:List (Nat × AV)->Nat->Option AV
 | [],_=>none
 | (k,c)::r,i=>bif Nat.beq k i then some c else tget r i
def zrun(T:Tab)(N:Nat)(tl:List (Nat × AV)):List Oper->Nat->Fr->Sto->Option (List (Option AV) × List Sto × Sto)
 | [],_,_,σ=>some ([],[],σ)
 | o::r,i,fr,σ=>match o.dst with
  | none=>(match opDo T N o fr σ with
   | some (_,σ')=>(match zrun T N tl r (i+1) fr σ' with
    | some (cs,ss,sj)=>some (none::cs,σ' ::ss,sj)
    | none=>none)
   | none=>none)
  | some d=>(match (match tget tl i with | some c=>some c | none=>qval T fr.ev σ o.op) with
   | some c=>(match zrun T N tl r (i+1) ((d,c)::fr) σ with
    | some (cs,ss,sj)=>some (some c::cs,ss,sj)
    | none=>none)
   | none=>none)
def hvL(l:List Oper)(cs:List (Option AV)):List Nat:=(List.range l.length).filter (isHv cs)
def hvH(l:List Oper)(cs:List (Option AV))(k:Nat):List Bool:=(List.range l.length).map fun i=>((hvL l cs).take k).contains i
def stoK(σ:Sto)(ss:List Sto)(k:Nat):Sto:=(σ::ss).getD k σ
def nodK(l:List Oper)(cs:List (Option AV))(fr:Fr)(σ:Sto)(ss:List Sto)(k:Nat):Node:=(hvH l cs k,fr,stoK σ ss k)
def nods(l:List Oper)(cs:List (Option AV))(fr:Fr)(σ:Sto)(ss:List Sto):List Node:=(List.range ((hvL l cs).length+1)).map (nodK l cs fr σ ss)
def purK(l:List Oper)(cs:List (Option AV))(tl:List (Nat × AV))(k:Nat):List Nat:=(mayL l cs (hvH l cs k)).filter fun i=> !(isHv cs i) && (tget tl i).isNone
def stoD(T:Tab)(N:Nat)(l:List Oper)(cs:List (Option AV))(fr:Fr)(σ:Sto)(ss:List Sto)(k:Nat):Option Sto:=match l[(hvL l cs).getD k 0]? with
 | some o=>(match o.dst with
  | none=>(opDo T N o (purF l cs (allT l)++fr) (stoK σ ss k)).map Prod.snd
  | some _=>none)
 | none=>none
def zchk(N:Nat)(tl:List (Nat × AV))(l:List Oper)(cs:List (Option AV)):Bool:=
 kMb N l cs &&
 ((List.range ((hvL l cs).length+1)).all fun k=>(mayL l cs (hvH l cs k)).all fun i=> !(isHv cs i) || (Nat.beq i ((hvL l cs).getD k 0) && Nat.ble (k+1) (hvL l cs).length)) &&
 ((List.range (hvL l cs).length).all fun k=>((hvH l cs k).set ((hvL l cs).getD k 0) true==hvH l cs (k+1)) && !((List.range l.length).all fun i=> !(isHv cs i) || (hvH l cs k).getD i false)) &&
 (hvH l cs 0==List.replicate l.length false) &&
 ((List.range ((hvL l cs).length+1)).all fun k=>(purK l cs tl k).all fun i=>(VJa cs i).isSome)
inductive Told (E:Env) (l:List Oper) (cs:List (Option AV)) (fr:Fr) (L:List Sto):List (Nat × AV)->Prop
 | nil:Told E l cs fr L []
 | cons {i:Nat} {c:AV} {o:Oper} {r:List (Nat × AV)} (ho:l[i]? =some o) (hc:cs[i]? =some (some c)) (h:∀s,s∈L->OpG E o (purF l cs (allT l)++fr) s c) (hr:Told E l cs fr L r):Told E l cs fr L ((i,c)::r)
theorem t0{o:Oper}{FR:Fr}{c:AV}(h:OpG E o FR σ c):∀s,s∈ [σ]->OpG E o FR s c:=fun s hs=>by
 rw[jCf.1 hs];exact h
theorem Told.get{L:List Sto}{tl:List (Nat × AV)}(h:Told E l cs fr L tl){i:Nat}(hi:(tget tl i).isSome=true):∃o c,l[i]? =some o/\cs[i]? =some (some c)/\∀s,s∈L->OpG E o (purF l cs (allT l)++fr) s c:=by
 induction h with
 | nil=>cases hi
 | @cons k c o r ho hc h _ ih=>
  unfold tget at hi;cases hb:Nat.beq k i with
  | true=>
   have:=jAo hb;subst this;exact ⟨o,c,ho,hc,h⟩
  | false=>rw[hb]at hi;exact ih hi
theorem j7a.of:∀{r:List Node},(∀nd∈r,z5b E l cs K all nd)->j7a E l cs K all r
 | [],_=>.nil
 | nd::r,h=>.cons (h nd (by simp)) (j7a.of fun x hx=>h x (by simp[hx]))
theorem opDo_sto{N:Nat}{o:Oper}{FR:Fr}{p:Fr × Sto}(hT:kVa E.P T)(hN:N=E.N)(hd:o.dst=none)(h:opDo T N o FR σ=some p):HvS E o FR σ p.2:=by
 subst hN;obtain ⟨f2,σ'⟩:=p;refine ⟨fun fr he _=>?_⟩;refine YMa hT ?_;obtain ⟨dst,op,ty,pos,af,gu⟩:=o;dsimp only at hd;subst hd;unfold opDo at h ⊢;dsimp only at h ⊢;cases op
 case store t x y=>
  have e1:=he x (by simp[Op.operands,Call.operands]);have e2:=he y (by simp[Op.operands,Call.operands]);dsimp only at h ⊢;rw[e1,e2];split at h
  .rename_i row hr;split at h
   .rename_i b off hx;split at h
    .rename_i cs' ho;split at h
     .rename_i vs hy;cases hb:(Nat.beq vs.length row.size && Nat.ble (off+vs.length) cs'.length) with
      | false=>rw[hb]at h;cases h
      | true=>
       rw[hb]at h;simp only[cond_true]at h ⊢;split at h
       .rename_i c2 hc2;split at h
        .rename_i s2 hs2;cases h;simp only[hr,hx,ho,hy,hb,hc2,hs2,cond_true]
        cases h
       cases h
     cases h
    cases h
   cases h
  cases h
 all_goals cases h
theorem mc(hT:kVa E.P T){id:Nat}(tl:List (Nat × AV))(frJ:Fr){ss:List Sto}{σJ:Sto}(hmix:E.P.follows .mixedOrders=true)(hz:zrun T E.N tl l 0 fr σ=some (cs,ss,σJ))
 (hk:(zchk E.N tl l cs,(List.range ((hvL l cs).length+1)).map (fun k=>(purK l cs tl k).map (qub T l cs fr (stoK σ ss k))),(List.range (hvL l cs).length).map (stoD T E.N l cs fr σ ss),stoK σ ss (hvL l cs).length)=(true,(List.range ((hvL l cs).length+1)).map (fun k=>(purK l cs tl k).map (VJa cs)),(List.range (hvL l cs).length).map (fun k=>some (stoK σ ss (k+1))),σJ))
 (ht:Told E l cs fr (σ::ss) tl) (hf:FrLe (purF l cs (allT l)++fr) frJ) (h:K .normal frJ σJ):AWP E (.region id l.toArray true) fr σ K:=by
 have k1:=congrArg (fun x=>x.1) hk;have k2:=congrArg (fun x=>x.2.1) hk;have k3:=congrArg (fun x=>x.2.2.1) hk;have k4:=congrArg (fun x=>x.2.2.2) hk;dsimp only at k1 k2 k3 k4;rw[<-k4]at h;have hin:∀k,stoK σ ss k∈σ::ss:=fun k=>by
  unfold stoK;rw[jAm];cases hg:(σ::ss)[k]? with
  | none=>simp
  | some s=>exact jAe hg
 simp only[zchk,jAs,jAw]at k1;obtain ⟨⟨⟨⟨q1,q2⟩,q3⟩,q4⟩,q5⟩:=k1;have hget:∀k,k < (hvL l cs).length+1->(nods l cs fr σ ss)[k]? =some (nodK l cs fr σ ss k):=fun k hk=>by
  unfold nods;rw[jAq,List.getElem?_range hk];rfl
 refine Qka cs (nods l cs fr σ ss) hmix q1 (hget 0 (by omega)) (by simpa using q4) qKa kGa (j7a.of fun nd hnd=>?_);obtain ⟨k,hk',rfl⟩:=jBy.1 hnd;have hkr:k < (hvL l cs).length+1:=by simpa using hk'
 have steps:waa E l cs (nods l cs fr σ ss) (hvH l cs k) fr (stoK σ ss k) (mayL l cs (hvH l cs k)):=waa.of fun i hi=>by
  have hi2:=q2 k (by simpa using hkr) i hi;cases hh:isHv cs i with
  | true=>
   rw[hh]at hi2;simp only[jBh,jDq,jAs]at hi2;have hik:=jAo hi2.1;have hkn:=jAd hi2.2;have h3:=List.map_inj_left.1 k3 k (jDk.2 (by omega));have hq3:=q3 k (jDk.2 (by omega));simp only[jAs,beq_iff_eq]at hq3;unfold stoD at h3;rw[<-hik]at h3 hq3;split at h3
   .rename_i o ho;split at h3
    .rename_i hd;obtain ⟨p,hp,hp2⟩:=jAl.1 h3;have hc:cs[i]? =some none:=by
      unfold isHv at hh;split at hh
      .rename_i e;exact e
      cases hh
     have hs:=opDo_sto hT rfl hd hp;rw[hp2]at hs;exact .sto (k+1) ho hc hs (by rw[hget (k+1) (by omega)];unfold nodK;rw[hq3.1]) qKa kGa
    cases h3
   cases h3
  | false=>
   cases htl:tget tl i with
   | some c0=>
    obtain ⟨o,c,e1,e2,e3⟩:=ht.get (i:=i) (by rw[htl];rfl);exact .pure e1 e2 (e3 _ (hin k))
   | none=>
    have hm:i∈purK l cs tl k:=by
     unfold purK;rw[jCw];exact ⟨hi,by rw[hh,htl];rfl⟩
    have e1:=List.map_inj_left.1 k2 k (by simpa using hkr);have hq:qub T l cs fr (stoK σ ss k) i=VJa cs i:=List.map_inj_left.1 e1 i hm;have hs:=q5 k (by simpa using hkr) i hm;obtain ⟨c,hcc⟩:=Option.isSome_iff_exists.1 hs;rw[hcc]at hq;obtain ⟨o,ho,hv⟩:=Option.bind_eq_some_iff.1 hq;obtain ⟨x,hx,hxc⟩:=Option.bind_eq_some_iff.1 hcc;have hxc:x=some c:=hxc;subst hxc;exact .pure ho hx (zpa (VBa hT hv))
 by_cases hkn:k < (hvL l cs).length
 .have hq3:=q3 k (by simpa using hkn);simp only[jAs,jCb]at hq3;exact .step _ rfl hq3.2 steps
 have:k=(hvL l cs).length:=by omega
 subst this;exact .full _ rfl steps hf kGa h
end
section
open Go.RowKit Go.Lib Go.Proofs.Tryz
def Fr.mp(f:AV->AV):Fr->Fr
 | []=>[]
 | (k,c)::l=>(k,f c)::Fr.mp f l
def AO.mp(f:AV->AV):AO->AO
 | .cells cs=>.cells (cs.map f)
 | .hold c v=>.hold (f c) v
 | o=>o
def Sto.mp(f:AV->AV):Sto->Sto
 | []=>[]
 | (k,a)::l=>(k,a.mp f)::Sto.mp f l
theorem Fr.get_mp{f:AV->AV}(h0:f .any=.any)(fr:Fr)(d:Nat):(fr.mp f).get d=f (fr.get d):=by
 induction fr with
 | nil=>exact h0.symm
 | cons x l ih=>
  obtain ⟨k,c⟩:=x;simp only[Fr.mp,Fr.get_cons,ih];split <;> rfl
theorem Sto.get_mp(f:AV->AV)(σ:Sto)(o:Nat):(σ.mp f).get o=(σ.get o).map (AO.mp f):=by
 induction σ with
 | nil=>rfl
 | cons x l ih=>
  obtain ⟨k,c⟩:=x;simp only[Sto.mp,Sto.get_cons,ih];split <;> rfl
theorem AO.own_mp(f:AV->AV)(ob:AO)(l:Loc):(ob.mp f).own l=ob.own l:=by cases ob <;> rfl
def AV.on(f:AV->AV):AV->AV
 | .agg l=>.agg (l.map f)
 | c=>f c
theorem vOb{g g' :G}{f:AV->AV}(hf:∀c v,Rel g c v->Rel g' (f c) v){c:AV}{v:Value}(h:Rel g c v):Rel g' (AV.on f c) v:=by
 cases c
 case agg cs=>
  cases h with
  | agg hl hc h=>
   refine .agg (by simp[hl]) hc fun i c hi=>?_
   simp only[jAq,jAl]at hi;obtain ⟨c',h1,rfl⟩:=hi;exact hf _ _ (h i c' h1)
 all_goals exact hf _ _ h
variable {E:Env} {fr:Fr} {σ:Sto} {K:Post}
theorem St.turn{g g' :G}{a:Act}(h:St E g a fr σ){r:Nat}{ob0 ob:AO}(hr:σ.get r=some ob0)(R:List Nat)(hR:r ∉ R)(f:AV->AV)(hf0:f .any=.any)(hf:∀c v,Rel g c v->Rel g' (f c) v)
 (hx:Ext g.w g.u g'.w g'.u) (hl:∀k,k≠r->g'.loc k=g.loc k) (hos:g'.w.os=g.w.os) (htape:g'.w.tape=g.w.tape) (hout:g'.w.output=g.w.output)
 (hb:∀b,b < g.w.heap.size->(∀o ob1,(o=r∨o∈R)->σ.get o=some ob1->¬ob1.own (g.loc o) b)->g'.w.heap[b]? =g.w.heap[b]? /\g'.u b=g.u b) (hwf:Wf g') (hob:RelO g' r ob)
 (hnew:∀b,ob.own (g'.loc r) b->(∃o ob1,(o=r∨o∈R)/\σ.get o=some ob1/\ob1.own (g.loc o) b)∨g.w.heap.size<=b):St E g' a (fr.mp f) (((σ.dels R).mp f).upd r ob):=by
 have hgr:((σ.dels R).mp f).get r=some (ob0.mp f):=by rw[Sto.get_mp,Sto.get_dels,if_neg hR,hr];rfl
 have hget:∀o ob',(((σ.dels R).mp f).upd r ob).get o=some ob' ->(o=r/\ob' =ob)∨(o≠r/\o ∉ R/\∃ob1,σ.get o=some ob1/\ob' =ob1.mp f):=by
  intro o ob' ho;rw[Sto.get_upd hgr]at ho;split at ho
  .rename_i hor;cases ho;exact .inl ⟨hor,rfl⟩
  rename_i hor;rw[Sto.get_mp,Sto.get_dels]at ho;split at ho
  .cases ho
  rename_i hoR;cases ho1:σ.get o with
  | none=>rw[ho1]at ho;cases ho
  | some ob1=>rw[ho1]at ho;cases ho;exact .inr ⟨hor,hoR,ob1,rfl,rfl⟩
 have hdis:∀o ob1 b,o≠r->o ∉ R->σ.get o=some ob1->ob1.own (g.loc o) b->∀o' ob2,(o' =r∨o' ∈R)->σ.get o' =some ob2->¬ob2.own (g.loc o') b:=by
  intro o ob1 b hne hnR ho hbo o' ob2 ho' h2 hc;have:=h.so.apart o o' ob1 ob2 b ho h2 hbo hc;subst this;rcases ho' with rfl | ho'
  .exact hne rfl
  exact hnR ho'
 refine ⟨fun d=>by rw[Fr.get_mp hf0];exact hf _ _ (h.fr d),h.n,h.df.mono hx,⟨?_,?_,?_,?_,hwf⟩⟩
 .intro o ob' ho;rcases hget o ob' ho with ⟨rfl,rfl⟩ | ⟨hne,hnR,ob1,ho1,rfl⟩
  .exact hob
  have hro:=h.so.obj o ob1 ho1;have hbb:∀b,ob1.own (g.loc o) b->g'.w.heap[b]? =g.w.heap[b]? /\g'.u b=g.u b:=fun b hb' =>hb b (hro.block_lt hb') (hdis o ob1 b hne hnR ho1 hb')
  cases ob1
  case cells cs=>
   cases hro with
   | @cells _ b t vs h1 h2 h3 h4 h5 h6=>
    obtain ⟨b1,b2⟩:=hbb b (by rw[h1];rfl);refine .cells ((hl o hne).trans h1) (b1.trans h2) (by simpa using h3) (b2.trans h4) h5 fun i c hi=>?_
    simp only[jAq,jAl]at hi;obtain ⟨c',hc',rfl⟩:=hi;exact hf _ _ (h6 i c' hc')
  case hold c v=>cases hro with
   | hold h1=>exact .hold (hf _ _ h1)
  all_goals exact hro.mono hx (hl o hne) (fun _ hk=>by cases hk) hbb
 .intro o o' ob1 ob2 b h1 h2 h3 h4;rcases hget o ob1 h1 with ⟨rfl,rfl⟩ | ⟨hne,hnR,ob1,ho1,rfl⟩ <;> rcases hget o' ob2 h2 with ⟨rfl,rfl⟩ | ⟨hne',hnR',ob2,ho2,rfl⟩
  .rfl
  .rw[AO.own_mp,hl o' hne']at h4;rcases hnew b h3 with ⟨q,obq,hq,hq1,hq2⟩ | h5
   .exact absurd hq2 (hdis o' ob2 b hne' hnR' ho2 h4 q obq hq hq1)
   have:=(h.so.obj o' _ ho2).block_lt h4;omega
  .rw[AO.own_mp,hl o hne]at h3;rcases hnew b h4 with ⟨q,obq,hq,hq1,hq2⟩ | h5
   .exact absurd hq2 (hdis o ob1 b hne hnR ho1 h3 q obq hq hq1)
   have:=(h.so.obj o _ ho1).block_lt h3;omega
  rw[AO.own_mp,hl o hne]at h3;rw[AO.own_mp,hl o' hne']at h4;exact h.so.apart o o' _ _ b ho1 ho2 h3 h4
 .intro o ob1 b h1 h2;rcases hget o ob1 h1 with ⟨rfl,rfl⟩ | ⟨hne,hnR,ob1,ho1,rfl⟩
  .rcases hnew b h2 with ⟨q,obq,hq,hq1,hq2⟩ | h5
   .exact h.so.mine q obq b hq1 hq2
   exact .inl (jCh h.so.old.ext.size h5)
  rw[AO.own_mp,hl o hne]at h2;exact h.so.mine o _ b ho1 h2
 refine h.so.old.trans ⟨hos,htape,hout,hx,fun b hbl hs=>hb b hbl fun q obq hq hq1 hq2=>?_⟩;rcases h.so.mine q obq b hq1 hq2 with h1 | h1
 .exact hs (.inr h1)
 exact hs (.inl h1)
def jya(size2:Nat):Loc->Loc
 | .row b off cap size n=>.nest b off cap size n size2 []
 | l=>l
def AV.nst(r:Nat):AV->AV
 | .hs x off=>bif Nat.beq x r then .ns r else .hs x off
 | c=>bif c.has r then .any else c
theorem Qna{g g' :G}{r:Nat}(hx:Ext g.w g.u g'.w g'.u)(hl:∀k,k≠r->g'.loc k=g.loc k){c:AV}{v:Value}(h:Rel g c v):Rel g' (bif c.has r then .any else c) v:=Yza hx hl h
theorem rel_nst{g g' :G}{r size2:Nat}(hx:Ext g.w g.u g'.w g'.u)(hk:∀k,k≠r->g'.loc k=g.loc k)(hl:g'.loc r=jya size2 (g.loc r)){c:AV}{v:Value}(h:Rel g c v):Rel g' (c.nst r) v:=by
 cases c
 case hs x off=>
  cases hb:Nat.beq x r with
  | true=>
   rw[show AV.nst r (.hs x off)=.ns r by show (bif Nat.beq x r then AV.ns r else AV.hs x off)=_;rw[hb];rfl];have:x=r:=jAo hb;subst this;cases h with
   | hsNil a h1=>exact .nsNil a (by rw[hl,h1];rfl)
   | hs h1 h2=>exact .ns (size2:=size2) (subs:=[]) (by rw[hl,h1];rfl) h2
  | false=>
   rw[show AV.nst r (.hs x off)=.hs x off by show (bif Nat.beq x r then AV.ns r else AV.hs x off)=_;rw[hb];rfl];have hne:x≠r:=by rintro rfl;simp at hb
   exact h.mono hx fun k hk' =>hk k (by have:=jAo (show Nat.beq x k=true from hk');subst this;exact hne)
 all_goals exact Qna hx hk h
theorem St.nest{g:G}{a:Act}{r size:Nat}{e:TypeId}{elems:List (List PV)}(h:St E g a fr σ)(hr:σ.get r=some (.row e true size elems))(j:Nat)(e2:TypeId)(size2:Nat):
 St E ⟨g.w,g.u,fun k=>if k=r then jya size2 (g.loc r) else g.loc k⟩ a (fr.mp (AV.on (AV.nst r))) (((σ.dels []).mp (AV.on (AV.nst r))).upd r (.nrow e size j e2 size2 0 elems)):=by
 have hl:(⟨g.w,g.u,fun k=>if k=r then jya size2 (g.loc r) else g.loc k⟩:G).loc r=jya size2 (g.loc r):=if_pos rfl;have hob:=h.so.obj r _ hr;have hbl:(jya size2 (g.loc r)).block=(g.loc r).block/\(∀b,b∈(jya size2 (g.loc r)).subs->(g.loc r).block=some b):=by
  cases hob with
  | nil h1=>rw[h1];exact ⟨rfl,fun b hb=>by cases hb⟩
  | row h1=>rw[h1];exact ⟨rfl,fun b hb=>by cases hb⟩
 refine h.turn (g' :=⟨g.w,g.u,fun k=>if k=r then jya size2 (g.loc r) else g.loc k⟩) hr [] (by simp) _ rfl (fun c v=>vOb fun c v=>rel_nst (g:=g) (g' :=⟨g.w,g.u,fun k=>if k=r then jya size2 (g.loc r) else g.loc k⟩) (Ext.refl _ _) (fun k hk=>if_neg hk) hl) (Ext.refl _ _) (fun k hk=>if_neg hk) rfl rfl rfl (fun _ _ _=>⟨rfl,rfl⟩) h.so.wf ?_ (fun b hb=>.inl ⟨r,_,.inl rfl,hr,?_⟩)
 .cases hob with
  | nil h1=>exact .nrowNil (by rw[hl,h1];rfl)
  | row h1 h2 h3 h4 h5 h6 h7 h8 h9=>exact .nrow (subs:=[]) (by rw[hl,h1];rfl) h2 h3 h4 h5 h6 (h8 rfl) rfl (jCp _) (by simp[zTa]) (fun i j' x c hi hj _=>h9 i j' x c hi hj) (fun i s x hi=>by simp at hi)
 rcases hb with hb | hb
 .rw[hl,hbl.1]at hb;exact hb
 rw[hl]at hb;exact hbl.2 b hb
theorem VLa{ops:Array Oper}{ol:List Oper}{size:Nat}{e:TypeId}{elems:List (List PV)}(r j:Nat)(e2:TypeId)(size2:Nat)(hr:σ.get r=some (.row e true size elems))
 (h:AWPL E ops ol (fr.mp (AV.on (AV.nst r))) (((σ.dels []).mp (AV.on (AV.nst r))).upd r (.nrow e size j e2 size2 0 elems)) K):AWPL E ops ol fr σ K:=
 ⟨fun g a hst=>h.go ⟨g.w,g.u,fun k=>if k=r then jya size2 (g.loc r) else g.loc k⟩ a (hst.nest hr j e2 size2)⟩
def wba:Loc->Loc
 | .nest b off cap size n _ _=>.row b off cap size n
 | l=>l
def pubU(size2:Nat)(subs:List (Option (Nat × Nat × Nat × Nat)))(u:Nat->Nat)(k:Nat):Nat:=
 match subs with
 | []=>u k
 | some (b,off,_,n)::l=>if b=k then (off+n) * size2 else pubU size2 l u k
 | none::l=>pubU size2 l u k
def locU:Loc->(Nat->Nat)->Nat->Nat
 | .nest _ _ _ _ _ size2 subs,u=>pubU size2 subs u
 | _,u=>u
theorem qza(s:Option (Nat × Nat × Nat × Nat))(l:List (Option (Nat × Nat × Nat × Nat))):zTa (s::l)=(match s with | some t=>[t.1] | none=>[])++zTa l:=by
 cases s <;> simp[zTa]
theorem vQa(l l' :List (Option (Nat × Nat × Nat × Nat))):zTa (l++l')=zTa l++zTa l' :=by simp[zTa]
theorem YTa{size2:Nat}{u:Nat->Nat}{k:Nat}:∀{subs:List (Option (Nat × Nat × Nat × Nat))},k ∉ zTa subs->pubU size2 subs u k=u k
 | [],_=>rfl
 | none::l,h=>YTa (subs:=l) (by simpa[qza]using h)
 | some (b,off,cap,n)::l,h=>by
  simp only[qza,jCk,jCf,not_or]at h;unfold pubU;rw[if_neg (Ne.symm h.1)];exact YTa h.2
theorem YUa{size2:Nat}{u:Nat->Nat}{b off cap n:Nat}:∀{subs:List (Option (Nat × Nat × Nat × Nat))} {i:Nat},(zTa subs).Nodup->subs[i]? =some (some (b,off,cap,n))->pubU size2 subs u b=(off+n) * size2
 | [],i,_,h=>by simp at h
 | none::l,0,_,h=>by simp at h
 | none::l,i+1,hd,h=>YUa (subs:=l) (by simpa[qza]using hd) (by simpa using h)
 | some (b',off',cap',n')::l,0,_,h=>by
  simp only[jDo,Option.some.injEq]at h;cases h;unfold pubU;rw[if_pos rfl]
 | some (b',off',cap',n')::l,i+1,hd,h=>by
  simp only[List.getElem?_cons_succ]at h;simp only[qza,List.singleton_append,jBq]at hd;unfold pubU;rw[if_neg (by rintro rfl;exact hd.1 (yea h))];exact YUa hd.2 h
theorem joa.pub{w:World}{u:Nat->Nat}{e:TypeId}{mu:Bool}{size:Nat}{rows:List (List PV)}{s:Nat × Nat × Nat × Nat}{v:Value}(h:joa w u e mu size rows s v){u' :Nat->Nat}(hx:Ext0 w u w u')(hu:(s.2.1+s.2.2.2) * size<=u' s.1):RelP w u' (.sl none rows) v:=by
 obtain ⟨vs,h1,h2,h3⟩:=h.blk;have hv:=h.val;rw[<-h.n]at hv;subst hv;have hne:rows≠ []:=by rintro rfl;have:=h.pos;rw[<-h.n]at this;simp at this
 have hle:rows.length<=s.2.2.1:=by rw[h.n];exact h.le
 refine .sl size s.1 (s.2.1 * size) (fun i=>vs.getD (s.2.1 * size+i) undef) (fun x hx=>by cases hx) (fun hx=>by cases hx) hle h.z (fun _=>rfl) (fun _=>⟨?_,kMa h1⟩) (fun i hi=>?_) (fun i j x c hi hj=>?_)
 .rw[<-jAv,h.n];exact hu
 .refine kva h1 ?_;rw[h2,jAv];have:=jAn size hle;omega
 have:=(h3 i j x c hi hj).mono0 hx;rw[show (s.2.1+i) * size+j=s.2.1 * size+(i * size+j) by rw[jAv];omega]at this;exact this
theorem Kpa.pub{w:World}{u:Nat->Nat}{e:TypeId}{size:Nat}{rows:List (List PV)}{s:Option (Nat × Nat × Nat × Nat)}{v:Value}(h:Kpa w u e size rows s v){u' :Nat->Nat}(hx:Ext0 w u w u')(hu:∀t,s=some t->(t.2.1+t.2.2.2) * size<=u' t.1):RelP w u' (.sl none rows) v:=by
 cases s with
 | none=>
  obtain ⟨rfl,a,cap,rfl,h0⟩:=h;have:=RelP.sl (w:=w) (u:=u') (nl:=none) (elems:=[]) (a:=a) (cap:=cap) 1 0 0 (fun _=>undef) (fun x hx=>by cases hx) (fun hx=>⟨h0 hx,rfl⟩) (by simp) (by simp) (by simp) (by simp) (fun i hi=>by simp at hi) (fun i j e c hi=>by simp at hi);exact this
 | some t=>exact joa.pub h hx (hu t rfl)
def AV.dnst(r:Nat):AV->AV
 | .ns x=>bif Nat.beq x r then .hs r 0 else .ns x
 | .np x i j=>bif Nat.beq x r then .hp x i j else .np x i j
 | c=>bif c.has r then .any else c
theorem rel_dnst{g g' :G}{r:Nat}(hx:Ext g.w g.u g'.w g'.u)(hk:∀k,k≠r->g'.loc k=g.loc k)(hl:g'.loc r=wba (g.loc r)){c:AV}{v:Value}(h:Rel g c v):Rel g' (c.dnst r) v:=by
 cases c
 case ns x=>
  cases hb:Nat.beq x r with
  | true=>
   rw[show AV.dnst r (.ns x)=.hs r 0 by show (bif Nat.beq x r then AV.hs r 0 else AV.ns x)=_;rw[hb];rfl];have:x=r:=jAo hb;subst this;cases h with
   | nsNil a h1=>exact .hsNil a (by rw[hl,h1];rfl)
   | ns h1 h2=>exact .hs (by rw[hl,h1];rfl) h2
  | false=>
   rw[show AV.dnst r (.ns x)=.ns x by show (bif Nat.beq x r then AV.hs r 0 else AV.ns x)=_;rw[hb];rfl];have hne:x≠r:=by rintro rfl;simp at hb
   exact h.mono hx fun k hk' =>hk k (by have:=jAo (show Nat.beq x k=true from hk');subst this;exact hne)
 case np x i j=>
  cases hb:Nat.beq x r with
  | true=>
   rw[show AV.dnst r (.np x i j)=.hp x i j by show (bif Nat.beq x r then AV.hp x i j else AV.np x i j)=_;rw[hb];rfl];have:x=r:=jAo hb;subst this;cases h with
   | np h1 h2=>exact .hp (by rw[hl,h1];rfl) h2
  | false=>
   rw[show AV.dnst r (.np x i j)=.np x i j by show (bif Nat.beq x r then AV.hp x i j else AV.np x i j)=_;rw[hb];rfl];have hne:x≠r:=by rintro rfl;simp at hb
   exact h.mono hx fun k hk' =>hk k (by have:=jAo (show Nat.beq x k=true from hk');subst this;exact hne)
 all_goals exact Qna hx hk h
theorem St.denest{g:G}{a:Act}{r size j size2 m:Nat}{e e2:TypeId}{elems:List (List PV)}(h:St E g a fr σ)(hr:σ.get r=some (.nrow e size j e2 size2 m elems)):
 St E ⟨g.w,locU (g.loc r) g.u,fun k=>if k=r then wba (g.loc r) else g.loc k⟩ a (fr.mp (AV.on (AV.dnst r))) (((σ.dels []).mp (AV.on (AV.dnst r))).upd r (.row e true size elems)):=by
 have hl:(⟨g.w,locU (g.loc r) g.u,fun k=>if k=r then wba (g.loc r) else g.loc k⟩:G).loc r=wba (g.loc r):=if_pos rfl;have hob:=h.so.obj r _ hr;have hlt:∀b,(AO.nrow e size j e2 size2 m elems).own (g.loc r) b->b < g.w.heap.size:=fun b hb=>hob.block_lt hb
 have hu0:∀k,k ∉ (g.loc r).subs->locU (g.loc r) g.u k=g.u k:=by
  intro k hk;cases hg:g.loc r with
  | nest b off cap size' n size2' subs=>rw[hg]at hk;exact YTa hk
  | _=>rfl
 have hx:Ext g.w g.u g.w (locU (g.loc r) g.u):=⟨jBc _,fun k hk=>by
  by_cases hin:k∈(g.loc r).subs
  .cases hob with
   | nrowNil h1=>rw[h1]at hin;cases hin
   | @nrow _ _ _ _ _ _ _ b off cap vs subs h1 h2 h3 h4 h5 h6 h7 h8 h9 h10 h11 h12=>
    rw[h1]at hin ⊢;obtain ⟨s,hs,hsb⟩:=jDm.1 hin;cases s with
    | none=>cases hsb
    | some s=>
     cases hsb;obtain ⟨i,hi,hii⟩:=jCm hs;have hi' :subs[i]? =some (some s):=by rw[jAi hi,hii]
     have hie:i < elems.length:=by omega
     obtain ⟨rows,_,q2⟩:=h12 i _ _ hi' (jAi hie);show _<=pubU size2 subs g.u s.1;rw[YUa (jBq.1 h10).2 hi',joa.hmu q2 rfl];exact jCp _
  rw[hu0 k hin];exact jBc _,fun _ _ _ _=>rfl,fun _ h=>h⟩
 refine h.turn (g' :=⟨g.w,locU (g.loc r) g.u,fun k=>if k=r then wba (g.loc r) else g.loc k⟩) hr [] (by simp) _ rfl (fun c v=>vOb fun c v=>rel_dnst (g:=g) (g' :=⟨g.w,locU (g.loc r) g.u,fun k=>if k=r then wba (g.loc r) else g.loc k⟩) hx (fun k hk=>if_neg hk) hl) hx (fun k hk=>if_neg hk) rfl rfl rfl (fun b hb hn=>⟨rfl,hu0 b fun hin=>hn r _ (.inl rfl) hr (.inr hin)⟩) (fun k hk=>?_) ?_ (fun b hb=>.inl ⟨r,_,.inl rfl,hr,?_⟩)
 .show locU (g.loc r) g.u k=0;rw[hu0 k fun hin=>by have:=hlt k (.inr hin);exact absurd hk (by show ¬g.w.heap.size<=k;omega)];exact h.so.wf k hk
 .cases hob with
  | nrowNil h1=>exact .nil (by rw[hl,h1];rfl)
  | @nrow _ _ _ _ _ _ _ b off cap vs subs h1 h2 h3 h4 h5 h6 h7 h8 h9 h10 h11 h12=>
   have hub:locU (g.loc r) g.u b=0:=by rw[hu0 b (by rw[h1];exact (jBq.1 h10).1)];exact h7
   refine .row (by rw[hl,h1];rfl) h2 h3 h4 h5 h6 (by show locU (g.loc r) g.u b<=_;rw[hub];exact jCp _) (fun _=>hub) (fun i j' x c hi hj=>?_);by_cases hc:m<=i∨j' ≠j
   .exact (h11 i j' x c hi hj hc).mono hx
   have him:i < m:=by omega
   have hjj:j' =j:=by omega
   subst hjj;obtain ⟨rows,q1,q2⟩:=h12 i _ x (jAi (by omega:i < subs.length)) hi;rw[hj]at q1;cases q1;refine Kpa.pub q2 hx.to0 fun t ht=>?_
   show _<=locU (g.loc r) g.u t.1;rw[h1];have hi' :subs[i]? =some (some (t.1,t.2.1,t.2.2.1,t.2.2.2)):=by rw[jAi (by omega:i < subs.length),ht]
   exact jBr (YUa (jBq.1 h10).2 hi').symm
 show (g.loc r).block=some b∨_;have hb2:(wba (g.loc r)).block=some b:=by rw[<-hl];exact hb
 clear hb;left;cases hob with
 | nrowNil h1=>rw[h1]at hb2;cases hb2
 | nrow h1=>rw[h1]at hb2 ⊢;exact hb2
theorem z7b{ops:Array Oper}{ol:List Oper}{size j size2 m:Nat}{e e2:TypeId}{elems:List (List PV)}(r:Nat)(hr:σ.get r=some (.nrow e size j e2 size2 m elems))
 (h:AWPL E ops ol (fr.mp (AV.on (AV.dnst r))) (((σ.dels []).mp (AV.on (AV.dnst r))).upd r (.row e true size elems)) K):AWPL E ops ol fr σ K:=
 ⟨fun g a hst=>h.go ⟨g.w,locU (g.loc r) g.u,fun k=>if k=r then wba (g.loc r) else g.loc k⟩ a (hst.denest hr)⟩
theorem W3a{c:Code}{size j size2 m:Nat}{e e2:TypeId}{elems:List (List PV)}(r:Nat)(hr:σ.get r=some (.nrow e size j e2 size2 m elems))
 (h:AWP E c (fr.mp (AV.on (AV.dnst r))) (((σ.dels []).mp (AV.on (AV.dnst r))).upd r (.row e true size elems)) K):AWP E c fr σ K:=
 ⟨fun g a hst=>h.go ⟨g.w,locU (g.loc r) g.u,fun k=>if k=r then wba (g.loc r) else g.loc k⟩ a (hst.denest hr)⟩
end
section
open Go.RowKit Go.Lib Go.Proofs.Tryz
def nown(m:Nat)(n:Int):Option Bool:=if n.toNat < m then some true else none
theorem VMa{m:Nat}{n:Int}{r:Bool}(h:nown m n=some r):n.toNat < m:=by
 unfold nown at h;split at h
 .assumption
 cases h
def qvb(m:Nat)(n:Int):Option Bool:=if n.toNat=m then some true else none
theorem Qoa{m:Nat}{n:Int}{r:Bool}(h:qvb m n=some r):n.toNat=m:=by
 unfold qvb at h;split at h
 .assumption
 cases h
def W4a(m:Nat)(n:Int):Option Bool:=if m<=n.toNat then some true else none
theorem Kba{m:Nat}{n:Int}{r:Bool}(h:W4a m n=some r):m<=n.toNat:=by
 unfold W4a at h;split at h
 .assumption
 cases h
variable {E:Env} {fr:Fr} {σ:Sto} {K:Post} {P:Program} {ρ:Operand->AV}
variable {dst:Option Tmp} {ty:TypeId} {pos:String} {af:Array Edge} {gu:Option (Nat × Bool)}
section
variable {α β:Type} {F:α->List PV} {G2:β->List PV} {l:List α} {l2:List β} {r size size2 bytes sb ss k j m:Nat} {e e2 t:TypeId} {zero sz:Value} {d:TypeDesc} {x y:Operand}
structure NAt (g:G) (r:Nat) (e:TypeId) (size j:Nat) (e2:TypeId) (size2 m:Nat) (F:α->List PV) (l:List α) (b off cap:Nat) (vs:Array Value) (subs:List (Option (Nat × Nat × Nat × Nat))):Prop where
 loc:g.loc r=.nest b off cap size l.length size2 subs
 heap:g.w.heap[b]? =some (.cells vs e (0,0))
 sz:vs.size=(off+cap) * size
 max:cap<=maxLen
 le:l.length<=cap
 z:∀x∈l,(F x).length=size
 u:g.u b=0
 sl:subs.length=m
 ml:m<=l.length
 nd:(b::zTa subs).Nodup
 cell:∀i j' x c,l[i]? =some x->(F x)[j']? =some c->(m<=i∨j' ≠j)->RelP g.w g.u c (vs.getD ((off+i) * size+j') undef)
 sub:∀i s x,subs[i]? =some s->l[i]? =some x->∃rows,(F x)[j]? =some (.sl none rows)/\Kpa g.w g.u e2 size2 rows s (vs.getD ((off+i) * size+j) undef)
theorem NAt.obj{g:G}{b off cap:Nat}{vs:Array Value}{subs:List (Option (Nat × Nat × Nat × Nat))}(h:NAt g r e size j e2 size2 m F l b off cap vs subs):RelO g r (.nrow e size j e2 size2 m (l.map F)):=
 .nrow (by rw[jAx];exact h.loc) h.heap h.sz h.max (by rw[jAx];exact h.le) (fun x hx=>by obtain ⟨y,hy,rfl⟩:=jBy.1 hx;exact h.z y hy) h.u h.sl (by rw[jAx];exact h.ml) h.nd
  (fun i j' x c hi hj hc=>by
   simp only[jAq,jAl]at hi;obtain ⟨y,hy,rfl⟩:=hi;exact h.cell i j' y c hy hj hc)
  (fun i s x hi hx=>by
   simp only[jAq,jAl]at hx;obtain ⟨y,hy,rfl⟩:=hx;exact h.sub i s y hi hy)
theorem vPb{g:G}(hob:RelO g r (.nrow e size j e2 size2 m (l.map F))):(g.loc r=.nilRow/\l=[]/\m=0)∨∃b off cap vs subs,NAt g r e size j e2 size2 m F l b off cap vs subs:=by
 generalize hls:l.map F=ls at hob;cases hob with
 | nrowNil hl=>exact .inl ⟨hl,by simpa using hls,rfl⟩
 | @nrow _ _ _ _ _ _ _ b off cap vs subs h1 h2 h3 h4 h5 h6 h7 h8 h9 h10 h11 h12=>
  subst hls;simp only[jAx]at h1 h5 h9;exact .inr ⟨b,off,cap,vs,subs,h1,h2,h3,h4,h5,fun x hx=>h6 _ (jBn hx),h7,h8,h9,h10,fun i j' x c hi hj hc=>h11 i j' (F x) c (by simp[hi]) hj hc,fun i s x hi hx=>h12 i s (F x) hi (by simp[hx])⟩
theorem QLa{g:G}{i:Nat}{v:α}(hob:RelO g r (.nrow e size j e2 size2 m (l.map F)))(hv:l[i]? =some v):∃b off cap vs subs,NAt g r e size j e2 size2 m F l b off cap vs subs:=by
 rcases vPb hob with ⟨_,rfl,_⟩ | h
 .simp at hv
 exact h
theorem JZa{g:G}{b off cap i j0:Nat}{vs:Array Value}{subs:List (Option (Nat × Nat × Nat × Nat))}{vp:Value}(h:NAt g r e size j e2 size2 m F l b off cap vs subs)(hp:Rel g (.np r i j0) vp):vp=.pointer (some ⟨b,(off+i) * size+j0,none⟩):=by
 cases hp with
 | np hl hi=>rw[h.loc]at hl;cases hl;rfl
theorem NAt.place{g:G}{b off cap i q:Nat}{vs:Array Value}{subs:List (Option (Nat × Nat × Nat × Nat))}(h:NAt g r e size j e2 size2 m F l b off cap vs subs)(hi:i < l.length)(hq:q < size):(off+i) * size+q < vs.size:=by
 rw[h.sz];exact Wua (s:=1) hi h.le hq
theorem z8b{tx:TypeId}(hx:ρ x=.ns r)(hr:σ.get r=some (.nrow e size j e2 size2 m (l.map F)))(ht:P.underlying t=some (.slice tx)):EvQ P ⟨dst,.call ⟨.builtin .len, #[x], #[t]⟩,ty,pos,af,gu⟩ ρ σ (.i l.length):=
 ⟨fun c=>by simp,fun g ρv h hs=>by
  have h1:=h x (by simp[Op.operands,Call.operands]);rw[hx]at h1;refine ⟨.int .i64 l.length,?_,.pv (.b rfl)⟩;generalize hv:ρv x=v at h1;rcases vPb (hs r _ hr) with ⟨hl,rfl,_⟩ | ⟨b,off,cap,vs,subs,hN⟩
  .cases h1 with
   | nsNil a h1=>simp[execOp,resolve,invoke,builtin,Builtin.len_,hv,go_sem,underlying,ht,goInt]
   | ns h1=>rw[hl]at h1;cases h1
  cases h1 with
  | nsNil a h1=>rw[hN.loc]at h1;cases h1
  | ns h1=>
   rw[hN.loc]at h1;cases h1;simp[execOp,resolve,invoke,builtin,Builtin.len_,hv,go_sem,underlying,ht,goInt]⟩
theorem VNa{n:Int}{kk:IntKind}{v:α}(hx:ρ x=.ns r)(hy:ρ y=.pv (.b (.int kk n)))(hr:σ.get r=some (.nrow e size j e2 size2 m (l.map F)))(ht:TyOk P t ss sb sz (.slice e))(he:TyOk P e size bytes zero d)(hv:idx l n=some v):
 EvQ P ⟨dst,.indexAddr t x y,ty,pos,af,gu⟩ ρ σ (.np r n.toNat 0):=
 ⟨fun c=>by simp,fun g ρv h hs=>by
  obtain ⟨h1,h2⟩:=ops2 (o:=⟨dst,.indexAddr t x y,ty,pos,af,gu⟩) (x:=x) (y:=y) rfl h;rw[hx]at h1;rw[hy]at h2;have e2:=kga h2;obtain ⟨hn0,hv⟩:=qDa hv;have hlt:n.toNat < l.length:=(jAc.1 hv).1;have hn2:n < l.length:=by omega
  obtain ⟨i,hi,hsz,hby,hzero⟩:=he.info;obtain ⟨b,off,cap,vs,subs,hN⟩:=QLa (hs r _ hr) hv;generalize ev:ρv x=vx at h1;cases h1 with
  | nsNil a h1=>rw[hN.loc]at h1;cases h1
  | ns h1 ha=>
   rw[hN.loc]at h1;cases h1;have ha:=ha (by have:=hN.le;omega);subst ha;refine ⟨.pointer (some ⟨b,(off+n.toNat) * size+0,none⟩),?_,.np hN.loc hlt⟩;simp[execOp,Instr.indexAt,e2,ev,go_sem,asIntOf,underlying,ht.u,sizeOf,typeInfo,hi,hsz,hn0,hn2,qaa,jAv]⟩
theorem VOa{i j0 f:Nat}{fs:Array Field}{fl:Field}{fsize fbytes:Nat}{fzero:Value}{fd:TypeDesc}(hx:ρ x=.np r i j0)(ht:P.underlying t=some (.struct fs))(hf:fs[f]? =some fl)(hft:TyOk P fl.type fsize fbytes fzero fd)(hz:Nat.beq fsize 0=false):
 EvQ P ⟨dst,.fieldAddr t x f,ty,pos,af,gu⟩ ρ σ (.np r i (j0+fl.offset)):=
 ⟨fun c=>by simp,fun g ρv h _=>by
  have h1:=h x (by simp[Op.operands]);rw[hx]at h1;generalize hv:ρv x=v at h1;cases h1 with
  | np hl hi=>
   have hz' :fsize≠0:=by rintro rfl;simp at hz
   refine ⟨_,?_,.np (j:=j0+fl.offset) hl hi⟩;simp[execOp,Instr.fieldAt,Instr.sureAddr,hv,go_sem,underlying,ht,hf,fieldPlace,hft.sizeOf,hz',qaa,jBv]⟩
theorem QZa{i k0 j0 f:Nat}{fs:Array Field}{fl:Field}{fsize fbytes:Nat}{fzero:Value}{fd:TypeDesc}(hx:ρ x=.hnp r i k0 j0)(ht:P.underlying t=some (.struct fs))(hf:fs[f]? =some fl)(hft:TyOk P fl.type fsize fbytes fzero fd)(hz:Nat.beq fsize 0=false):
 EvQ P ⟨dst,.fieldAddr t x f,ty,pos,af,gu⟩ ρ σ (.hnp r i k0 (j0+fl.offset)):=
 ⟨fun c=>by simp,fun g ρv h _=>by
  have h1:=h x (by simp[Op.operands]);rw[hx]at h1;generalize hv:ρv x=v at h1;cases h1 with
  | hnp hl hs hk=>
   have hz' :fsize≠0:=by rintro rfl;simp at hz
   refine ⟨_,?_,.hnp (j:=j0+fl.offset) hl hs hk⟩;simp[execOp,Instr.fieldAt,Instr.sureAddr,hv,go_sem,underlying,ht,hf,fieldPlace,hft.sizeOf,hz',qaa,jBv]⟩
section
variable {t' :TypeId} {size' bytes' :Nat} {zero' :Value} {d' :TypeDesc} {n:Int} {j0:Nat} {v v' :α} {c:PV}
theorem wNa(hx:ρ x=.np r n.toNat j0)(hr:σ.get r=some (.nrow e size j e2 size2 m (l.map F)))(ht:TyOk P t' size' bytes' zero' d')(hd:dAgg d' =false)(hv:idx l n=some v)(hc:(F v)[j0]? =some c)(hj:Nat.beq j0 j=false∨m<=n.toNat):EvQ P ⟨dst,.load t' x,ty,pos,af,gu⟩ ρ σ (.pv c):=
 ⟨fun c=>by simp,fun g ρv h hs=>by
  have h1:=h x (by simp[Op.operands]);rw[hx]at h1;obtain ⟨hn0,hv⟩:=qDa hv;obtain ⟨b,off,cap,vs,subs,hN⟩:=QLa (hs r _ hr) hv;have e1:=JZa hN h1;have hjs:j0 < size:=by rw[<-hN.z v (jAe hv)];exact (jAc.1 hc).1
  have hlt:=(jAc.1 hv).1;refine ⟨_,qTa e1 (vZa ht hd (kva hN.heap (hN.place hlt hjs))),.pv (hN.cell _ _ _ _ hv hc ?_)⟩;rcases hj with hj | hj
  .right;rintro rfl;simp at hj
  exact .inl hj⟩
theorem Qpa(hx:ρ x=.np r n.toNat j0)(hr:σ.get r=some (.nrow e size j e2 size2 m (l.map F)))(ht:TyOk P t' size' bytes' zero' d')(hd:dAgg d' =true)(hv:idx l n=some v)(hle:Nat.ble (j0+size') (F v).length=true)(hj:(Nat.ble (j+1) j0 || Nat.ble (j0+size') j)=true∨m<=n.toNat):EvQ P ⟨dst,.load t' x,ty,pos,af,gu⟩ ρ σ (.agg ((((F v).drop j0).take size').map .pv)):=
 ⟨fun c=>by simp,fun g ρv h hs=>by
  have h1:=h x (by simp[Op.operands]);rw[hx]at h1;obtain ⟨hn0,hv⟩:=qDa hv;have hle:=jAd hle;obtain ⟨b,off,cap,vs,subs,hN⟩:=QLa (hs r _ hr) hv;have e1:=JZa hN h1;have hlt:=(jAc.1 hv).1;have hFz:=hN.z v (jAe hv);have hj' :∀q,q < size' ->m<=n.toNat∨j0+q≠j:=by
   intro q hq;rcases hj with hj | hj
   .right;simp only[jBx]at hj;rcases hj with hj | hj <;> have:=jAd hj <;> omega
   exact .inl hj
  have hrel:∀q,q < size' ->∃c,(F v)[j0+q]? =some c/\RelP g.w g.u c (vs.getD ((off+n.toNat) * size+(j0+q)) undef):=by
   intro q hq;have h2:j0+q < (F v).length:=by omega
   exact ⟨_,jAi h2,hN.cell _ _ _ _ hv (jAi h2) (hj' q hq)⟩
  refine ⟨_,qTa e1 (wEa ht hd (f:=fun q=>vs.getD ((off+n.toNat) * size+(j0+q)) undef) fun q hq=>?_),.agg (by simp;omega) (fun q hq=>?_) (fun q c hq=>?_)⟩
  .rw[jBv];exact kva hN.heap (hN.place hlt (by omega))
  .simp only[List.size_toArray,jAx,List.length_range]at hq;rw[vKa _ _ _ hq];obtain ⟨c,_,hr⟩:=hrel q hq;exact hr.cellV
  simp only[jAq,jAl]at hq;obtain ⟨c',hc',rfl⟩:=hq;have hq2:q < size' :=by have:=(jAc.1 hc').1;simp at this;omega
  rw[jAt hq2,jBf]at hc';rw[vKa _ _ _ hq2];obtain ⟨c,hc,hr⟩:=hrel q hq2;rw[hc']at hc;cases hc;exact .pv hr⟩
theorem sub_val{g:G}{b off cap i:Nat}{vs:Array Value}{subs:List (Option (Nat × Nat × Nat × Nat))}{v:α}(hN:NAt g r e size j e2 size2 m F l b off cap vs subs)(hv:l[i]? =some v)(hm:i < m):Rel g (.hn r i) (vs.getD ((off+i) * size+j) undef):=by
 obtain ⟨s,hs⟩:∃s,subs[i]? =some s:=⟨_,jAi (by have:=hN.sl;omega)⟩;obtain ⟨rows,q1,q2⟩:=hN.sub i s v hs hv;cases s with
 | none=>
  obtain ⟨_,a,cp,hval,_⟩:=q2;rw[hval];exact .hnNil a cp hN.loc hs
 | some t=>
  rw[joa.val q2];exact .hn (b2:=t.1) (off2:=t.2.1) (cap2:=t.2.2.1) (n2:=t.2.2.2) hN.loc hs
theorem vQb{w:World}{u:Nat->Nat}{e:TypeId}{size:Nat}{rows:List (List PV)}{s:Option (Nat × Nat × Nat × Nat)}{v:Value}(h:Kpa w u e size rows s v):cellV v=true:=by
 cases s with
 | none=>obtain ⟨_,a,cap,rfl,_⟩:=h;rfl
 | some t=>rw[joa.val h];rfl
theorem YVa(hx:ρ x=.np r n.toNat j0)(hr:σ.get r=some (.nrow e size j e2 size2 m (l.map F)))(ht:TyOk P t' size' bytes' zero' d')(hd:dAgg d' =false)(hv:idx l n=some v)(hj:Nat.beq j0 j=true)(hm:n.toNat < m):EvQ P ⟨dst,.load t' x,ty,pos,af,gu⟩ ρ σ (.hn r n.toNat):=
 ⟨fun c=>by simp,fun g ρv h hs=>by
  have h1:=h x (by simp[Op.operands]);rw[hx]at h1;obtain rfl:=jAo hj;obtain ⟨hn0,hv⟩:=qDa hv;obtain ⟨b,off,cap,vs,subs,hN⟩:=QLa (hs r _ hr) hv;have e1:=JZa hN h1;have hlt:=(jAc.1 hv).1;obtain ⟨s,hss⟩:∃s,subs[n.toNat]? =some s:=⟨_,jAi (by have:=hN.sl;omega)⟩;obtain ⟨rows,q1,q2⟩:=hN.sub _ s v hss hv;have hjs:j0 < size:=by rw[<-hN.z v (jAe hv)];exact (jAc.1 q1).1
  exact ⟨_,qTa e1 (vZa ht hd (kva hN.heap (hN.place hlt hjs))),sub_val hN hv hm⟩⟩
theorem sub_row{g:G}{b off cap i:Nat}{vs:Array Value}{subs:List (Option (Nat × Nat × Nat × Nat))}{v:α}{vx:Value}(hN:NAt g r e size j e2 size2 m F l b off cap vs subs)(hv:l[i]? =some v)(hF:(F v)[j]? =some (.sl none (l2.map G2)))(hx:Rel g (.hn r i) vx):
 (l2=[]/\∃a cp,vx=.slice a 0 cp)∨∃s,subs[i]? =some (some s)/\joa g.w g.u e2 true size2 (l2.map G2) s vx:=by
 cases hx with
 | hnNil a cp hl hs=>
  rw[hN.loc]at hl;cases hl;obtain ⟨rows,q1,q2⟩:=hN.sub i _ v hs hv;rw[hF]at q1;cases q1;exact .inl ⟨by simpa using q2.1,a,cp,rfl⟩
 | hn hl hs=>
  rw[hN.loc]at hl;cases hl;obtain ⟨rows,q1,q2⟩:=hN.sub i _ v hs hv;rw[hF]at q1;cases q1;refine .inr ⟨_,hs,?_⟩;have h:=joa.val q2;rw[h]at q2;exact q2
theorem YWa{n2:Int}{kk:IntKind}{w2:β}(hx:ρ x=.hn r n.toNat)(hy:ρ y=.pv (.b (.int kk n2)))(hr:σ.get r=some (.nrow e size j e2 size2 m (l.map F)))(ht:TyOk P t ss sb sz (.slice e2))(he:TyOk P e2 size2 bytes zero d)(hv:idx l n=some v)(hF:(F v)[j]? =some (.sl none (l2.map G2)))(hv2:idx l2 n2=some w2):
 EvQ P ⟨dst,.indexAddr t x y,ty,pos,af,gu⟩ ρ σ (.hnp r n.toNat n2.toNat 0):=
 ⟨fun c=>by simp,fun g ρv h hs=>by
  obtain ⟨h1,h2⟩:=ops2 (o:=⟨dst,.indexAddr t x y,ty,pos,af,gu⟩) (x:=x) (y:=y) rfl h;rw[hx]at h1;rw[hy]at h2;have ey:=kga h2;obtain ⟨hn0,hv⟩:=qDa hv;obtain ⟨hn20,hv2⟩:=qDa hv2;have hlt:n2.toNat < l2.length:=(jAc.1 hv2).1;have hn2:n2 < l2.length:=by omega
  obtain ⟨i,hi,hsz,hby,hzero⟩:=he.info;obtain ⟨b,off,cap,vs,subs,hN⟩:=QLa (hs r _ hr) hv;rcases sub_row hN hv hF h1 with ⟨rfl,a,cp,e1⟩ | ⟨s,hss,hR⟩
  .simp at hlt
  have e1:=hR.val;have en:=hR.n;rw[jAx]at en;refine ⟨.pointer (some ⟨s.1,(s.2.1+n2.toNat) * size2+0,none⟩),?_,.hnp (b2:=s.1) (off2:=s.2.1) (cap2:=s.2.2.1) (n2:=s.2.2.2) hN.loc hss (by omega)⟩;rw[<-en]at e1;simp[execOp,Instr.indexAt,ey,e1,go_sem,asIntOf,underlying,ht.u,sizeOf,typeInfo,hi,hsz,hn20,hn2,qaa,jAv]⟩
theorem hnp_val{g:G}{b off cap i k0 j2:Nat}{vs:Array Value}{subs:List (Option (Nat × Nat × Nat × Nat))}{v:α}{vp:Value}(hN:NAt g r e size j e2 size2 m F l b off cap vs subs)(hv:l[i]? =some v)(hF:(F v)[j]? =some (.sl none (l2.map G2)))(hp:Rel g (.hnp r i k0 j2) vp):
 ∃s val,subs[i]? =some (some s)/\joa g.w g.u e2 true size2 (l2.map G2) s val/\vs.getD ((off+i) * size+j) undef=val/\k0 < l2.length/\vp=.pointer (some ⟨s.1,(s.2.1+k0) * size2+j2,none⟩):=by
 cases hp with
 | hnp hl hs hk=>
  rw[hN.loc]at hl;cases hl;obtain ⟨rows,q1,q2⟩:=hN.sub i _ v hs hv;rw[hF]at q1;cases q1;have:=q2.n;rw[jAx]at this;exact ⟨_,_,hs,q2,rfl,by rw[this];exact hk,rfl⟩
theorem joa.lt{w:World}{u:Nat->Nat}{mu:Bool}{s:Nat × Nat × Nat × Nat}{vx:Value}{i q:Nat}{vs:Array Value}(h:joa w u e mu size (l.map F) s vx)(hsz:vs.size=(s.2.1+s.2.2.1) * size)(hi:i < l.length)(hq:q < size):(s.2.1+i) * size+q < vs.size:=by
 rw[hsz];have h1:=h.n;have h2:=h.le;rw[jAx]at h1;exact Wua (s:=1) (n:=l.length) hi (by omega) hq
end
end
end
section
open Go.RowKit Go.Lib Go.Proofs.Tryz
structure Wrote (w w' :World) (b p:Nat) (t:TypeId) (cur new:Array Value) (cl:List Value):Prop where
 os:w'.os=w.os
 tape:w'.tape=w.tape
 output:w'.output=w.output
 size:w'.heap.size=w.heap.size
 other:∀k,k≠b->w'.heap[k]? =w.heap[k]?
 here:w'.heap[b]? =some (.cells new t (0,0))
 sz:new.size=cur.size
 inn:∀q,q < cl.length->new.getD (p+q) undef=cl.getD q undef
 out:∀q,(q < p∨p+cl.length<=q)->new.getD q undef=cur.getD q undef
theorem J0a{w:World}{b p:Nat}{t:TypeId}{cur:Array Value}{cl:List Value}(h:w.heap[b]? =some (.cells cur t (0,0)))(hf:p+cl.length<=cur.size):Wrote w (w.setRow b (cur.toList.take p++cl++cur.toList.drop (p+cl.length)).toArray) b p t cur (cur.toList.take p++cl++cur.toList.drop (p+cl.length)).toArray cl where
 os:=rfl
 tape:=rfl
 output:=rfl
 size:=by simp[World.setRow]
 other k hk:=by simp only[World.setRow,jCj];rw[if_neg (Ne.symm hk)]
 here:=setRow_heap w b cur _ t _ h
 sz:=by simp;omega
 inn q hq:=by
  rw[jAf,jBi,jAp,jAh (by simp;omega),jAk (by simp;omega),jAm]
  congr 2
  simp;omega
 out q hq:=by
  rw[jAf,jBi,jAp,jAf];rcases hq with hq | hq
  .rw[jAk (by simp;omega),jAt hq,jBw]
  rw[jAh (by simp;omega),jAh (by simp;omega),jBf,jBw]
  congr 2
  simp;omega
theorem Wrote.ext{w w' :World}{b p:Nat}{t:TypeId}{cur new:Array Value}{cl:List Value}{u:Nat->Nat}(h:Wrote w w' b p t cur new cl)(hb:w.heap[b]? =some (.cells cur t (0,0)))(hu:u b=0):Ext w u w' u:=⟨jBr h.size.symm,fun _ _=>jBc _,fun k i hk hi=>by
 by_cases hkb:k=b
 .subst hkb;omega
 simp only[World.cell?];rw[h.other k hkb],fun r hr=>(h.other r (by rintro rfl;rw[hb]at hr;cases hr)).trans hr⟩
theorem sub_ne:∀{subs:List (Option (Nat × Nat × Nat × Nat))} {i i' :Nat} {s s' :Nat × Nat × Nat × Nat},(zTa subs).Nodup->subs[i]? =some (some s)->subs[i']? =some (some s')->i≠i' ->s.1≠s'.1
 | [],i,_,_,_,_,h,_,_=>by simp at h
 | x::l,0,0,_,_,_,_,_,hne=>absurd rfl hne
 | x::l,0,i' +1,s,s',hd,h1,h2,_=>by
  simp only[jDo,Option.some.injEq]at h1;subst h1;simp only[qza,List.singleton_append,jBq]at hd;rintro he;exact hd.1 (he▸yea (by simpa using h2))
 | x::l,i+1,0,s,s',hd,h1,h2,_=>by
  simp only[jDo,Option.some.injEq]at h2;subst h2;simp only[qza,List.singleton_append,jBq]at hd;rintro he;exact hd.1 (he▸yea (by simpa using h1))
 | x::l,i+1,i' +1,s,s',hd,h1,h2,hne=>by
  refine sub_ne (subs:=l) ?_ (by simpa using h1) (by simpa using h2) (by omega);rw[qza]at hd;exact (List.nodup_append.1 hd).2.1
theorem QMa{vs:Array Value}(h:∀i,i < vs.size->cellV (vs.getD i undef)=true):∀u∈vs.toList,u.oneCell' =true:=by
 intro u hu;obtain ⟨i,hi,rfl⟩:=jCm hu;have h0:=h i (by simpa using hi);rw[show vs.getD i undef=vs.toList[i] by simp[Array.getD,show i < vs.size by simpa using hi]]at h0;cases hcase:vs.toList[i] <;> rw[hcase]at h0 <;> first | rfl | simp[cellV]at h0
theorem yoa{P:Program}{ρv:Operand->Value}{w:World}{b p:Nat}{t t' :TypeId}{x y:Operand}{cur:Array Value}{size' bytes' :Nat}{zero' :Value}{d' :TypeDesc}{ty:TypeId}{pos:String}{af:Array Edge}{gu:Option (Nat × Bool)}
 (hx:ρv x=.pointer (some ⟨b,p,none⟩)) (ht:TyOk P t' size' bytes' zero' d') (hn:(ρv y).cells.size=size') (hc:∀i,i < (ρv y).cells.size->cellV ((ρv y).cells.getD i undef)=true) (hb:w.heap[b]? =some (.cells cur t (0,0))) (hf:p+size' <=cur.size):
 ∃w' new,(execOp ρv ⟨none,.store t' x y,ty,pos,af,gu⟩).run P w=.ok .skip w' /\Wrote w w' b p t cur new (ρv y).cells.toList:=by
 have hs:=run_storeCells_at (P:=P) b p t (ρv y).cells.toList 0 cur w hb (by simp;omega) (QMa hc);simp only[jCi]at hs;refine ⟨_,_,?_,J0a hb (by simp;omega)⟩;show Sem.run P (do Instr.storeAt t' (ρv x) (ρv y);pure Next.skip) w=_;rw[hx];simp only[Instr.storeAt,Instr.sureAddr,storeVar,jAu,jBd,jAr,ht.sizeOf];rw[if_neg (by rw[hn];simp)];simp only[jAu,jBd,jAr,hs]
variable {E:Env} {fr:Fr} {σ:Sto} {K:Post} {P:Program} {ρ:Operand->AV}
variable {dst:Option Tmp} {ty:TypeId} {pos:String} {af:Array Edge} {gu:Option (Nat × Bool)}
section
variable {α β:Type} {F:α->List PV} {G2:β->List PV} {l:List α} {l2:List β} {r r2 size size2 bytes sb ss k j m:Nat} {e e2 t:TypeId} {zero sz:Value} {d:TypeDesc} {x y:Operand}
variable {t' :TypeId} {size' bytes' :Nat} {zero' :Value} {d' :TypeDesc} {n:Int} {j0:Nat} {v v' :α} {c:PV}
theorem YXa{off i i' q j0 len size:Nat}(hq:q < size)(hj:j0+len<=size)(h:i' ≠i∨q < j0∨j0+len<=q):(off+i') * size+q < (off+i) * size+j0∨(off+i) * size+j0+len<=(off+i') * size+q:=by
 by_cases hi:i' =i
 .subst hi;omega
 rcases jBg i' i with h2 | h2
 .have:(off+i' +1) * size<=(off+i) * size:=jAn _ (by omega);rw[jAv (off+i')]at this;omega
 have:(off+i+1) * size<=(off+i') * size:=jAn _ (by omega);rw[jAv (off+i)]at this;omega
theorem Zaa{pcs:List PV}(hx:fr.ev x=.np r n.toNat j0)(hr:σ.get r=some (.nrow e size j e2 size2 m (l.map F)))(hy:(fr.ev y).weak.cells=some (pcs.map .pv))(ht:TyOk E.P t' size' bytes' zero' d')(hz:Nat.beq pcs.length size' =true)
 (hv:idx l n=some v) (hle:Nat.ble (j0+pcs.length) (F v).length=true) (hj:(Nat.ble (j+1) j0 || Nat.ble (j0+pcs.length) j)=true) (hF' :F v' =(F v).take j0++pcs++(F v).drop (j0+pcs.length)):
 OpTo E ⟨none,.store t' x y,ty,pos,af,gu⟩ fr σ fr (σ.upd r (.nrow e size j e2 size2 m ((l.set n.toNat v').map F))):=
 ⟨fun g a K Q hst hK=>by
  have hle:=jAd hle;have hz:=jAo hz;have hj:j < j0∨j0+pcs.length<=j:=by
   simp only[jBx]at hj;rcases hj with hj | hj <;> have:=jAd hj <;> omega
  refine ⟨fun _ _=>trivial,?_⟩;rw[jAy _ _ _ (fun c=>by simp)];have h1:=hst.ev x;rw[hx]at h1;obtain ⟨hn0,hv⟩:=qDa hv;obtain ⟨b,off,cap,cur,subs,hN⟩:=QLa (hst.so.obj r _ hr) hv;have e1:=JZa hN h1;obtain ⟨v1,v2,v3⟩:=wFa (qSa (hst.ev y)) hy;rw[jAx]at v1;have hlt:=(jAc.1 hv).1;have hFz:=hN.z v (jAe hv);have hfit:(off+n.toNat) * size+j0+pcs.length<=cur.size:=by rw[hN.sz];exact Wua hlt hN.le (by omega)
  obtain ⟨w',new,hrun,hW⟩:=yoa (P:=E.P) (w:=g.w) (ty:=ty) (pos:=pos) (af:=af) (gu:=gu) e1 ht (by omega) v2 hN.heap (by omega);rw[hrun,Oper.uponIn_skip];have hcl:(a.eval y).cells.toList.length=pcs.length:=by simpa using v1
  have hxx:=hW.ext (u:=g.u) hN.heap hN.u;have hFv' :(F v').length=size:=by rw[hF'];simp;omega
  have hjl:((F v).take j0).length=j0:=by simp;omega
  have hF1:∀q,(q < j0∨j0+pcs.length<=q)->(F v')[q]? =(F v)[q]? :=by
   intro q hq;rw[hF',jAp];rcases hq with hq | hq
   .rw[jAk (by omega),jAt hq]
   rw[jAh (by omega),hjl,jAh (by omega),jBf]
   congr 1;omega
  have hF2:∀q,q < pcs.length->(F v')[j0+q]? =pcs[q]? :=by
   intro q hq;rw[hF',jAp,jAh (by omega),hjl,jAk (by omega)]
   congr 1;omega
  have hkeep:∀i' q,q < size->(i' ≠n.toNat∨q < j0∨j0+pcs.length<=q)->new.getD ((off+i') * size+q) undef=cur.getD ((off+i') * size+q) undef:=fun i' q hq h=>hW.out _ (by rw[hcl];exact YXa hq (by omega) h)
  have hN' :NAt ⟨w',g.u,g.loc⟩ r e size j e2 size2 m F (l.set n.toNat v') b off cap new subs:=by
   refine ⟨by rw[jBz];exact hN.loc,hW.here,hW.sz.trans hN.sz,hN.max,by rw[jBz];exact hN.le,fun z hz' =>?_,hN.u,hN.sl,by rw[jBz];exact hN.ml,hN.nd,fun i' j' z c hi' hj' hc=>?_,fun i' s z hs hz' =>?_⟩
   .rcases jBk hz' with h2 | rfl
    .exact hN.z z h2
    exact hFv'
   .by_cases hin:i' =n.toNat
    .subst hin;rw[jBm hlt]at hi';cases hi';have hjs:j' < size:=by rw[<-hFv'];exact (jAc.1 hj').1
     by_cases hr' :j' < j0∨j0+pcs.length<=j'
     .rw[hkeep _ j' hjs (.inr hr')];rw[hF1 j' hr']at hj';exact (hN.cell _ j' v c hv hj' hc).mono hxx
     have hq:j' - j0 < pcs.length:=by omega
     have:=hF2 (j' - j0) hq;rw[show j0+(j' - j0)=j' by omega,hj']at this;have h5:=v3 (j' - j0) (.pv c) (by simp[<-this]);cases h5 with
     | pv h5=>
      have h6:=hW.inn (j' - j0) (by omega);rw[show (off+n.toNat) * size+j0+(j' - j0)=(off+n.toNat) * size+j' by omega]at h6;rw[h6];have h7:=h5.mono hxx;simpa using h7
    rw[jBp (by omega)]at hi';have hjs:j' < size:=by rw[<-hN.z z (jAe hi')];exact (jAc.1 hj').1
    rw[hkeep i' j' hjs (.inl hin)];exact (hN.cell i' j' z c hi' hj' hc).mono hxx
   obtain ⟨z0,hz0,hFz0⟩:∃z0,l[i']? =some z0/\(F z)[j]? =(F z0)[j]? :=by
    by_cases hin:i' =n.toNat
    .subst hin;rw[jBm hlt]at hz';cases hz';exact ⟨v,hv,hF1 j hj⟩
    rw[jBp (by omega)]at hz';exact ⟨z,hz',rfl⟩
   obtain ⟨rows,q1,q2⟩:=hN.sub i' s z0 hs hz0;have hjs:j < size:=by rw[<-hN.z z0 (jAe hz0)];exact (jAc.1 q1).1
   refine ⟨rows,hFz0.trans q1,?_⟩;rw[hkeep i' j hjs (.inr hj)];refine q2.mono hxx.to0 fun t ht=>⟨hW.other t.1 ?_,rfl⟩
   rintro rfl;subst ht;exact (jBq.1 hN.nd).1 (yea hs)
  exact hK ⟨w',g.u,g.loc⟩ _ (St.put_none (hst.objset hr hxx rfl hW.os hW.tape hW.output (fun k hk hne=>⟨hW.other k (by rintro rfl;exact hne (by rw[hN.loc];exact .inl rfl)),rfl⟩) (yka hst.so.wf (jBr hW.size.symm) _) hN'.obj (fun _=>rfl)))⟩
theorem jza{pcs:List PV}{n2:Int}{w2 w2' :β}(hx:fr.ev x=.hnp r n.toNat n2.toNat j0)(hr:σ.get r=some (.nrow e size j e2 size2 m (l.map F)))(hy:(fr.ev y).weak.cells=some (pcs.map .pv))(ht:TyOk E.P t' size' bytes' zero' d')(hz:Nat.beq pcs.length size' =true)
 (hv:idx l n=some v) (hF:(F v)[j]? =some (.sl none (l2.map G2))) (hv2:idx l2 n2=some w2) (hle:Nat.ble (j0+pcs.length) (G2 w2).length=true) (hG' :G2 w2' =(G2 w2).take j0++pcs++(G2 w2).drop (j0+pcs.length)) (hF' :F v' =(F v).set j (.sl none ((l2.set n2.toNat w2').map G2))):
 OpTo E ⟨none,.store t' x y,ty,pos,af,gu⟩ fr σ fr (σ.upd r (.nrow e size j e2 size2 m ((l.set n.toNat v').map F))):=
 ⟨fun g a K Q hst hK=>by
  have hle:=jAd hle;have hz:=jAo hz;refine ⟨fun _ _=>trivial,?_⟩;rw[jAy _ _ _ (fun c=>by simp)];have h1:=hst.ev x;rw[hx]at h1;obtain ⟨hn0,hv⟩:=qDa hv;obtain ⟨hn20,hv2⟩:=qDa hv2;obtain ⟨b,off,cap,cur,subs,hN⟩:=QLa (hst.so.obj r _ hr) hv;obtain ⟨s,val,hss,hR,hval,hk,e1⟩:=hnp_val hN hv hF h1;obtain ⟨vs2,b1,b2,b3⟩:=hR.blk;obtain ⟨v1,v2,v3⟩:=wFa (qSa (hst.ev y)) hy;rw[jAx]at v1;have hlt:=(jAc.1 hv).1;have hFz:=hN.z v (jAe hv);have hGz:=hR.z _ (jBn (jAe hv2));have hu2:=hR.hmu rfl;have hRn:=hR.n;rw[jAx]at hRn;have hfit:(s.2.1+n2.toNat) * size2+j0+pcs.length<=vs2.size:=by rw[b2];exact Wua (n:=l2.length) hk (by have:=hR.le;omega) (by omega)
  obtain ⟨w',new,hrun,hW⟩:=yoa (P:=E.P) (w:=g.w) (ty:=ty) (pos:=pos) (af:=af) (gu:=gu) e1 ht (by omega) v2 b1 (by omega);rw[hrun,Oper.uponIn_skip];have hcl:(a.eval y).cells.toList.length=pcs.length:=by simpa using v1
  have hxx:=hW.ext (u:=g.u) b1 hu2;have hG2:(G2 w2').length=size2:=by rw[hG'];simp;omega
  have hjl:((G2 w2).take j0).length=j0:=by simp;omega
  have hsb:s.1≠b:=by rintro rfl;exact (jBq.1 hN.nd).1 (yea hss)
  have hF1:∀q,q≠j->(F v')[q]? =(F v)[q]? :=fun q hq=>by rw[hF',jBp (Ne.symm hq)]
  have hjs:j < (F v).length:=(jAc.1 hF).1;have hFj:(F v')[j]? =some (.sl none ((l2.set n2.toNat w2').map G2)):=by rw[hF',jBm hjs]
  have hFv' :(F v').length=size:=by rw[hF',jBz,hFz]
  have hR' :joa w' g.u e2 true size2 ((l2.set n2.toNat w2').map G2) s val:=by
   refine ⟨hR.val,by simp[hRn],hR.pos,⟨new,hW.here,hW.sz.trans b2,fun i' j' z c hi' hj' =>?_⟩,hR.cap,hR.le,fun z hz' =>?_,hR.hu,hR.hmu⟩
   .simp only[jAq,jAl]at hi';obtain ⟨z,hi',rfl⟩:=hi';by_cases hin:i' =n2.toNat
    .subst hin;rw[jBm hk]at hi';cases hi';have hjs' :j' < size2:=by rw[<-hG2];exact (jAc.1 hj').1
     by_cases hr' :j' < j0∨j0+pcs.length<=j'
     .rw[hW.out _ (by rw[hcl];exact YXa hjs' (by omega) (.inr hr'))];have hj2:(G2 w2)[j']? =some c:=by
       rw[<-hj',hG',jAp];rcases hr' with hq | hq
       .rw[jAk (by omega),jAt hq]
       rw[jAh (by omega),hjl,jAh (by omega),jBf]
       congr 1;omega
      exact (b3 _ j' _ c (by simp[hv2]) hj2).mono hxx
     have hq:j' - j0 < pcs.length:=by omega
     have hj2:pcs[j' - j0]? =some c:=by
      rw[<-hj',hG',jAp,jAh (by omega),hjl,jAk (by omega)]
     have h5:=v3 (j' - j0) (.pv c) (by simp[hj2]);cases h5 with
     | pv h5=>
      have h6:=hW.inn (j' - j0) (by omega);rw[show (s.2.1+n2.toNat) * size2+j0+(j' - j0)=(s.2.1+n2.toNat) * size2+j' by omega]at h6;rw[h6];have h7:=h5.mono hxx;simpa using h7
    rw[jBp (by omega)]at hi';have hzz:=hR.z _ (jBn (jAe hi'));have hjs' :j' < size2:=by rw[<-hzz];exact (jAc.1 hj').1
    rw[hW.out _ (by rw[hcl];exact YXa hjs' (by omega) (.inl hin))];exact (b3 i' j' _ c (by simp[hi']) hj').mono hxx
   obtain ⟨z0,hz0,rfl⟩:=jBy.1 hz';rcases jBk hz0 with h2 | rfl
   .exact hR.z _ (jBn h2)
   exact hG2
  have hN' :NAt ⟨w',g.u,g.loc⟩ r e size j e2 size2 m F (l.set n.toNat v') b off cap cur subs:=by
   refine ⟨by rw[jBz];exact hN.loc,(hW.other b (Ne.symm hsb)).trans hN.heap,hN.sz,hN.max,by rw[jBz];exact hN.le,fun z hz' =>?_,hN.u,hN.sl,by rw[jBz];exact hN.ml,hN.nd,fun i' j' z c hi' hj' hc=>?_,fun i' s' z hs hz' =>?_⟩
   .rcases jBk hz' with h2 | rfl
    .exact hN.z z h2
    exact hFv'
   .by_cases hin:i' =n.toNat
    .subst hin;rw[jBm hlt]at hi';cases hi';have him:n.toNat < m:=by have:=(jAc.1 hss).1;have:=hN.sl;omega
     have hjj:j' ≠j:=by
      rcases hc with hc | hc; · omega
      exact hc
     rw[hF1 j' hjj]at hj';exact (hN.cell _ j' v c hv hj' hc).mono hxx
    rw[jBp (by omega)]at hi';exact (hN.cell i' j' z c hi' hj' hc).mono hxx
   by_cases hin:i' =n.toNat
   .subst hin;rw[jBm hlt]at hz';cases hz';rw[hss]at hs;cases hs;exact ⟨_,hFj,by rw[hval];exact hR'⟩
   rw[jBp (by omega)]at hz';obtain ⟨rows,q1,q2⟩:=hN.sub i' s' z hs hz';refine ⟨rows,q1,q2.mono hxx.to0 fun t ht=>⟨hW.other t.1 ?_,rfl⟩⟩;subst ht;exact sub_ne (jBq.1 hN.nd).2 hs hss hin
  exact hK ⟨w',g.u,g.loc⟩ _ (St.put_none (hst.objset hr hxx rfl hW.os hW.tape hW.output (fun k hk hne=>⟨hW.other k (by rintro rfl;exact hne (by rw[hN.loc];exact .inr (yea hss))),rfl⟩) (yka hst.so.wf (jBr hW.size.symm) _) hN'.obj (fun _=>rfl)))⟩
end
end
section
open Go.RowKit Go.Lib Go.Proofs.Tryz
def Wxa(l l' :Loc):Prop:=l' =l∨(∃b off cap size n size2 subs more,l=.nest b off cap size n size2 subs/\l' =.nest b off cap size n size2 (subs++more))∨∃b subs subs',l=.mapr b subs/\l' =.mapr b subs'
theorem Wxa.plain{l l' :Loc}(h:Wxa l l')(hn:∀b off cap size n size2 subs,l≠ .nest b off cap size n size2 subs/\l≠ .mapr b subs):l' =l:=by
 rcases h with h | ⟨b,off,cap,size,n,size2,subs,more,h,_⟩ | ⟨b,subs,subs',h,_⟩
 .exact h
 .exact absurd h (hn _ _ _ _ _ _ _).1
 exact absurd h (hn b 0 0 0 0 0 subs).2
theorem Wxa.mapr{l' :Loc}{b:Nat}{subs:List (Option (Nat × Nat × Nat × Nat))}(h:Wxa (.mapr b subs) l'):∃subs',l' =.mapr b subs' :=by
 rcases h with h | ⟨b',off',cap',size',n',size2',subs',more,h,h2⟩ | ⟨b',s1,s2,h,h2⟩
 .exact ⟨_,h⟩
 .cases h
 cases h;exact ⟨_,h2⟩
theorem Wxa.nest{l' :Loc}{b off cap size n size2:Nat}{subs:List (Option (Nat × Nat × Nat × Nat))}(h:Wxa (.nest b off cap size n size2 subs) l'):∃more,l' =.nest b off cap size n size2 (subs++more):=by
 rcases h with h | ⟨b',off',cap',size',n',size2',subs',more,h,h2⟩ | ⟨b',s1,s2,h,h2⟩
 .exact ⟨[],by rw[jCz];exact h⟩
 .cases h;exact ⟨more,h2⟩
 cases h
theorem YYa{α:Type}{l more:List α}{i:Nat}{x:α}(h:l[i]? =some x):(l++more)[i]? =some x:=by
 rw[jAk (jAc.1 h).1];exact h
theorem Rel.more{g g' :G}(hx:Ext g.w g.u g'.w g'.u){c:AV}{v:Value}(h:Rel g c v):(∀o,c.has o=true->Wxa (g.loc o) (g'.loc o))->Rel g' c v:=by
 have hx0:=hx.to0;induction h with
 | any v=>exact fun _=>.any v
 | pv h=>exact fun _=>.pv (h.mono0 hx0)
 | @agg cs vs hl hc h ih=>exact fun hh=>.agg hl hc (fun i c hi=>ih i c hi fun o ho=>hh o (by unfold AV.has;exact AV.hasL_of hi ho))
 | @tup cs vs hl h ih=>exact fun hh=>.tup hl (fun i c hi=>ih i c hi fun o ho=>hh o (by unfold AV.has;exact AV.hasL_of hi ho))
 | @ptr o off b hl=>exact fun hh=>.ptr (by have:=hh o (by simp[AV.has]);rw[hl]at this;exact this.plain (by intros;simp))
 | @ep cells b off val hu hb hcell h=>exact fun hh=>Rel.mono hx (.ep val hu hb hcell h) (fun o ho=>by cases ho)
 | @hsNil r a hl=>exact fun hh=>.hsNil a (by have:=hh r (by simp[AV.has]);rw[hl]at this;exact this.plain (by intros;simp))
 | @hs r b off cap size n a hl ha=>exact fun hh=>.hs (by have:=hh r (by simp[AV.has]);rw[hl]at this;exact this.plain (by intros;simp)) ha
 | @hp r idx j b off cap size n hl hi=>exact fun hh=>.hp (by have:=hh r (by simp[AV.has]);rw[hl]at this;exact this.plain (by intros;simp)) hi
 | @fn f first captured fv cv h1 h2 hf hc ihf ihc=>
  exact fun hh=>.fn h1 h2 (fun i c hi=>ihf i c hi fun o ho=>hh o (by simp[AV.has,AV.hasL_of hi ho])) (fun i c hi=>ihc i c hi fun o ho=>hh o (by simp[AV.has,AV.hasL_of hi ho]))
 | @mp o b hl=>exact fun hh=>.mp (by have:=hh o (by simp[AV.has]);rw[hl]at this;exact this.plain (by intros;simp))
 | @hsubNil r lo a hl=>exact fun hh=>.hsubNil a (by have:=hh r (by simp[AV.has]);rw[hl]at this;exact this.plain (by intros;simp))
 | @hsub r lo b off cap size n a hl hle ha=>exact fun hh=>.hsub (by have:=hh r (by simp[AV.has]);rw[hl]at this;exact this.plain (by intros;simp)) hle ha
 | z0 a=>exact fun _=>.z0 a
 | ifc h=>exact fun _=>.ifc h
 | @hpreNil r a hl=>exact fun hh=>.hpreNil a (by have:=hh r (by simp[AV.has]);rw[hl]at this;exact this.plain (by intros;simp))
 | @hpre r hi b off cap size n a hl hle ha=>exact fun hh=>.hpre (by have:=hh r (by simp[AV.has]);rw[hl]at this;exact this.plain (by intros;simp)) hle ha
 | @nsNil r a hl=>exact fun hh=>.nsNil a (by have:=hh r (by simp[AV.has]);rw[hl]at this;exact this.plain (by intros;simp))
 | @ns r b off cap size n size2 subs a hl ha=>exact fun hh=>by have:=hh r (by simp[AV.has]);rw[hl]at this;obtain ⟨more,h2⟩:=this.nest;exact .ns h2 ha
 | @np r idx j b off cap size n size2 subs hl hi=>exact fun hh=>by have:=hh r (by simp[AV.has]);rw[hl]at this;obtain ⟨more,h2⟩:=this.nest;exact .np h2 hi
 | @hnNil r idx b off cap size n size2 subs a cap2 hl hs=>exact fun hh=>by have:=hh r (by simp[AV.has]);rw[hl]at this;obtain ⟨more,h2⟩:=this.nest;exact .hnNil a cap2 h2 (YYa hs)
 | @hn r idx b off cap size n size2 b2 off2 cap2 n2 subs hl hs=>exact fun hh=>by have:=hh r (by simp[AV.has]);rw[hl]at this;obtain ⟨more,h2⟩:=this.nest;exact .hn h2 (YYa hs)
 | @hnp r idx k j b off cap size n size2 b2 off2 cap2 n2 subs hl hs hk=>exact fun hh=>by have:=hh r (by simp[AV.has]);rw[hl]at this;obtain ⟨more,h2⟩:=this.nest;exact .hnp h2 (YYa hs) hk
 | nn h=>exact fun _=>.nn h
 | @ls o b hl=>exact fun hh=>.ls (by have:=hh o (by simp[AV.has]);rw[hl]at this;exact this.plain (by intros;simp))
 | @mr o b subs hl=>exact fun hh=>by have:=hh o (by simp[AV.has]);rw[hl]at this;obtain ⟨s,h2⟩:=this.mapr;exact .mr h2
theorem J1a{g g' :G}{r r2:Nat}(hx:Ext g.w g.u g'.w g'.u)(hl:∀k,k≠r->g'.loc k=g.loc k)(hr:Wxa (g.loc r) (g'.loc r)){c:AV}{v:Value}(h:Rel g c v):Rel g' (c.clr r2) v:=by
 unfold AV.clr;cases hc:c.has r2 with
 | true=>exact .any _
 | false=>
  refine h.more hx fun o ho=>?_
  by_cases hor:o=r
  .subst hor;exact hr
  exact .inl (hl o hor)
variable {E:Env} {fr:Fr} {σ:Sto} {K:Post} {P:Program} {ρ:Operand->AV}
variable {dst:Option Tmp} {ty:TypeId} {pos:String} {af:Array Edge} {gu:Option (Nat × Bool)}
section
variable {α β:Type} {F:α->List PV} {G2:β->List PV} {l:List α} {l2:List β} {r r2 size size2 bytes sb ss k j m:Nat} {e e2 t:TypeId} {zero sz:Value} {d:TypeDesc} {x y:Operand}
variable {t' :TypeId} {size' bytes' :Nat} {zero' :Value} {d' :TypeDesc} {n:Int} {j0:Nat} {v v' :α} {c:PV}
theorem W5a{g:G}{vx:Value}(hob:RelO g r2 (.row e2 true size2 (l2.map G2)))(hx:Rel g (.hs r2 0) vx):
 ∃s,Kpa g.w g.u e2 size2 (l2.map G2) s vx/\∀t,s=some t->(AO.row e2 true size2 (l2.map G2)).own (g.loc r2) t.1:=by
 generalize hls:l2.map G2=ls at hob;cases hob with
 | nil hl=>
  cases hx with
  | hsNil a h1=>exact ⟨none,⟨rfl,a,0,rfl,fun _=>rfl⟩,fun t ht=>by cases ht⟩
  | hs h1=>rw[hl]at h1;cases h1
 | @row _ _ _ _ b off cap vs h1 h2 h3 h4 h5 h6 h7 h8 h9=>
  cases hx with
  | hsNil a hl=>rw[h1]at hl;cases hl
  | @hs _ _ _ _ _ _ ad hl ha=>
   rw[h1]at hl;cases hl;rcases Nat.eq_zero_or_pos ls.length with h0 | h0
   .refine ⟨none,⟨jBo h0,some ad,cap,by rw[h0],fun hx=>by cases hx⟩,fun t ht=>by cases ht⟩
   have:=ha (by omega);subst this;exact ⟨some (b,off,cap,ls.length),⟨rfl,rfl,h0,⟨vs,h2,h3,h9⟩,h4,h5,h6,h7,fun _=>h8 rfl⟩,fun t ht=>by cases ht;rw[h1];rfl⟩
theorem qwb(hx:fr.ev x=.np r n.toNat j0)(hr:σ.get r=some (.nrow e size j e2 size2 m (l.map F)))(hy:fr.ev y=.hs r2 0)(hr2:σ.get r2=some (.row e2 true size2 (l2.map G2)))(hne:Nat.beq r r2=false)(ht:TyOk E.P t' 1 bytes' zero' d')
 (hj:Nat.beq j0 j=true) (hv:idx l n=some v) (hm:n.toNat=m) (hjs:Nat.ble (j+1) (F v).length=true) (hF' :F v' =(F v).set j (.sl none (l2.map G2))):
 OpTo E ⟨none,.store t' x y,ty,pos,af,gu⟩ fr σ (fr.mp (AV.clr r2)) (((σ.dels [r2]).mp (AV.clr r2)).upd r (.nrow e size j e2 size2 (m+1) ((l.set n.toNat v').map F))):=
 ⟨fun g a K Q hst hK=>by
  obtain rfl:=jAo hj;have hjs:=jAd hjs;have hne:r≠r2:=by rintro rfl;simp at hne
  refine ⟨fun _ _=>trivial,?_⟩;rw[jAy _ _ _ (fun c=>by simp)];have h1:=hst.ev x;rw[hx]at h1;have h2:=hst.ev y;rw[hy]at h2;obtain ⟨hn0,hv⟩:=qDa hv;have hob:=hst.so.obj r _ hr;obtain ⟨b,off,cap,cur,subs,hN⟩:=QLa hob hv;have e1:=JZa hN h1;obtain ⟨s,hS,hSown⟩:=W5a (hst.so.obj r2 _ hr2) h2;have hlt:=(jAc.1 hv).1;have hFz:=hN.z v (jAe hv);have hcell:=vQb hS;have hcells:(a.eval y).cells= #[a.eval y]:=by cases hc:a.eval y <;> rw[hc]at hcell <;> first | rfl | cases hcell
  obtain ⟨w',new,hrun,hW⟩:=yoa (P:=E.P) (w:=g.w) (t:=e) (cur:=cur) (ty:=ty) (pos:=pos) (af:=af) (gu:=gu) (y:=y) e1 ht (by rw[hcells];rfl) (by rw[hcells];intro i hi;simp at hi;subst hi;exact hcell) hN.heap (by have:=hN.place hlt (by omega:j0 < size);omega);rw[hcells]at hW;rw[hrun,Oper.uponIn_skip];have hxx:=hW.ext (u:=g.u) hN.heap hN.u;have hFv' :(F v').length=size:=by rw[hF',jBz,hFz]
  have hFj:(F v')[j0]? =some (.sl none (l2.map G2)):=by rw[hF',jBm (by omega)]
  have hF1:∀q,q≠j0->(F v')[q]? =(F v)[q]? :=fun q hq=>by rw[hF',jBp (Ne.symm hq)]
  have hkeep:∀i' q,q < size->(i' ≠n.toNat∨q≠j0)->new.getD ((off+i') * size+q) undef=cur.getD ((off+i') * size+q) undef:=fun i' q hq h=>hW.out _ (YXa (len:=1) hq (by omega) (by omega))
  have hnew:new.getD ((off+n.toNat) * size+j0) undef=a.eval y:=by
   have:=hW.inn 0 (by simp);simpa using this
  let g' :G:=⟨w',g.u,fun k=>if k=r then .nest b off cap size l.length size2 (subs++ [s]) else g.loc k⟩;have hl' :g'.loc r=.nest b off cap size l.length size2 (subs++ [s]):=if_pos rfl;have hk' :∀k,k≠r->g'.loc k=g.loc k:=fun k hk=>if_neg hk
  have hbn:∀t,s=some t->t.1≠b:=by
   rintro t ht rfl;exact hne (hst.so.apart r r2 _ _ t.1 hr hr2 (by rw[hN.loc];exact .inl rfl) (hSown t ht))
  have hS' :Kpa w' g.u e2 size2 (l2.map G2) s (a.eval y):=hS.mono hxx.to0 fun t ht=>⟨hW.other t.1 (hbn t ht),rfl⟩
  have hN' :NAt g' r e size j0 e2 size2 (m+1) F (l.set n.toNat v') b off cap new (subs++ [s]):=by
   refine ⟨by rw[jBz];exact hl',hW.here,hW.sz.trans hN.sz,hN.max,by rw[jBz];exact hN.le,fun z hz' =>?_,hN.u,by rw[jAg,hN.sl];rfl,by rw[jBz];omega,?_,fun i' j' z c hi' hj' hc=>?_,fun i' s' z hs hz' =>?_⟩
   .rcases jBk hz' with h2 | rfl
    .exact hN.z z h2
    exact hFv'
   .rw[vQa];have hnd:=hN.nd;cases hs:s with
    | none=>simpa[zTa]using hnd
    | some t=>
     have htb:=hbn t hs;have hnin:t.1 ∉ zTa subs:=fun hin=>hne (hst.so.apart r r2 _ _ t.1 hr hr2 (by rw[hN.loc];exact .inr hin) (hSown t hs))
     rw[show zTa [some t]=[t.1] from rfl,<-List.cons_append];rw[List.nodup_append];refine ⟨hnd,by simp,fun q hq q' hq' =>?_⟩;simp only[jCf]at hq';subst hq';rintro rfl;rcases jCd.1 hq with h3 | h3
     .exact htb h3
     exact hnin h3
   .by_cases hin:i' =n.toNat
    .subst hin;rw[jBm hlt]at hi';cases hi';have hjj:j' ≠j0:=by omega
     have hjs' :j' < size:=by rw[<-hFv'];exact (jAc.1 hj').1
     rw[hkeep _ j' hjs' (.inr hjj)];rw[hF1 j' hjj]at hj';exact (hN.cell _ j' v c hv hj' (.inr hjj)).mono hxx
    rw[jBp (by omega)]at hi';have hjs' :j' < size:=by rw[<-hN.z z (jAe hi')];exact (jAc.1 hj').1
    rw[hkeep i' j' hjs' (.inl hin)];exact (hN.cell i' j' z c hi' hj' (by omega)).mono hxx
   by_cases hin:i' =n.toNat
   .subst hin;rw[jBm hlt]at hz';cases hz';rw[jAh (by rw[hN.sl];omega),hN.sl,hm,Nat.sub_self]at hs;simp only[jDo,Option.some.injEq]at hs;subst hs;exact ⟨_,hFj,by rw[hnew];exact hS'⟩
   rw[jBp (by omega)]at hz';have hil:i' < subs.length:=by
    have:=(jAc.1 hs).1;simp only[jAg,jDg]at this;have:=hN.sl;omega
   rw[jAk hil]at hs;obtain ⟨rows,q1,q2⟩:=hN.sub i' s' z hs hz';refine ⟨rows,q1,?_⟩;rw[hkeep i' j0 (by omega) (.inl hin)];refine q2.mono hxx.to0 fun t ht=>⟨hW.other t.1 ?_,rfl⟩
   rintro rfl;subst ht;exact (jBq.1 hN.nd).1 (yea hs)
  have hle:Wxa (g.loc r) (g'.loc r):=.inr <| .inl ⟨b,off,cap,size,l.length,size2,subs,[s],hN.loc,hl'⟩;refine hK g' _ (St.put_none (hst.turn (g' :=g') hr [r2] (by simpa using hne) (AV.clr r2) rfl (fun c v h=>J1a hxx hk' hle h) hxx hk' hW.os hW.tape hW.output (fun q hq hno=>⟨hW.other q ?_,rfl⟩) (yka hst.so.wf (jBr hW.size.symm) _) hN'.obj (fun q hq=>.inl ?_)))
  .rintro rfl;exact hno r _ (.inl rfl) hr (by rw[hN.loc];exact .inl rfl)
  rw[hl']at hq;rcases hq with hq | hq
  .exact ⟨r,_,.inl rfl,hr,by rw[hN.loc];exact .inl hq⟩
  have hq:q∈zTa (subs++ [s]):=hq;rw[vQa]at hq;rcases jCk.1 hq with hq | hq
  .exact ⟨r,_,.inl rfl,hr,by rw[hN.loc];exact .inr hq⟩
  cases hs:s with
  | none=>rw[hs]at hq;cases hq
  | some t=>
   rw[hs,show zTa [some t]=[t.1] from rfl,jCf]at hq;subst hq;exact ⟨r2,_,.inr (by simp),hr2,hSown t hs⟩⟩
end
end
section
open Go.RowKit Go.Lib Go.Proofs.Tryz
def nall(m n:Nat):Option Bool:=if m=n then some true else none
theorem vRb{m n:Nat}{r:Bool}(h:nall m n=some r):m=n:=by
 unfold nall at h;split at h
 .assumption
 cases h
variable {E:Env} {fr:Fr} {σ:Sto} {K:Post} {P:Program} {ρ:Operand->AV}
variable {dst:Option Tmp} {ty:TypeId} {pos:String} {af:Array Edge} {gu:Option (Nat × Bool)}
section
variable {α β:Type} {F:α->List PV} {G2:β->List PV} {l r' :List α} {l2:List β} {r r2 o size size2 bytes sb ss k j m lim:Nat} {e e2 t:TypeId} {zero sz:Value} {d:TypeDesc} {x y:Operand} {v:α} {cs:List AV}
theorem vSb(o:Nat)(hN:Nat.ble (k+1) E.N=true)(hfo:fr.has o=false)(hso:σ.has o=false)(ht:TyOk E.P t ss sb sz (.slice e))(he:TyOk E.P e size bytes zero d)(hzs:(Nat.beq zero.cells.size size && Nat.ble 1 size && zero.cells.toList.all cellV && Nat.ble size 16777216)=true)
 (hc:YAa (fun i=>some (i * size,size)) (List.replicate size .any) [(0,(fr.ev y).weak)]=some cs) (hcs:AV.hasL o cs=false):
 OpTo E ⟨some k,.buildSlice t 1 #[(0,y)],ty,pos,af,gu⟩ fr σ ((k,.ls o)::fr) ((o,.cells cs)::σ):=
 ⟨fun g a K Q hst hK=>by
  simp only[jAs]at hzs;have hz1:=jAo hzs.1.1.1;have hz2:=jAd hzs.1.1.2;have hz4:=jAd hzs.2;refine ⟨fun _ _=>trivial,?_⟩;rw[jAy _ _ _ (fun c=>by simp)];generalize harr:((Array.range (1 * size)).map (fun i=>zero.cells[i % zero.cells.size]!))=arr;have hasz:arr.size=size:=by rw[<-harr];simp
  have hacell:∀i,i < arr.size->cellV (arr.getD i undef)=true:=by
   intro i hi;rw[hasz]at hi;have hlt:i % zero.cells.size < zero.cells.size:=Nat.mod_lt _ (by omega);have:arr.getD i undef=zero.cells[i % zero.cells.size]:=by
    rw[<-harr];simp[hi,hlt]
   rw[this];have h3:=hzs.1.2;rw[jAw]at h3;exact h3 _ (by simp)
  obtain ⟨out,h1,h2⟩:=YBa (g:=g) [(0,(fr.ev y).weak)] [(0,a.eval y)] (List.replicate size .any) arr cs
   ⟨by simp[hasz],hacell,fun i c hi=>by
    have:=jAe hi;rw[jDe]at this;rw[this.2];exact .any _⟩ (by simp) (fun i p v hp hv=>by
   cases i with
   | zero=>simp at hp hv;subst hp;subst hv;exact ⟨rfl,qSa (hst.ev y)⟩
   | succ i=>simp at hp) hc
  have hrun:(execOp a.eval ⟨some k,.buildSlice t 1 #[(0,y)],ty,pos,af,gu⟩).run E.P g.w=.ok (.value (.slice (some ⟨g.w.heap.size,0,none⟩) 1 1)) (g.w.alloc (.cells out e)):=by
   show Sem.run E.P (do let v <-Instr.buildSlice t 1 ((#[(0,y)]:Array (Nat × Operand)).map fun (i,x)=>(i,a.eval x));pure (Next.value v)) g.w=_;have e1:((#[(0,y)]:Array (Nat × Operand)).map fun (x:Nat × Operand)=>(x.1,a.eval x.2)).toList=[(0,a.eval y)]:=by simp
   have hgt:¬(1 * size > 2 ^ 24):=by simp;omega
   have h0:¬(1 * size=0):=by omega
   simp only[Instr.buildSlice,underlying,program,jAu,Sem.run,ht.u,he.sizeOf,jAr,jBd,if_neg hgt,if_neg h0,he.zeroValue,e1,harr,h1];rfl
  rw[hrun,jBb];have hst' :=hst.box o hfo hso e h2.n h2.c h2.r hcs;exact hK _ _ (hst'.put (jAd hN) (.ls (if_pos rfl)))⟩
theorem VPa{g:G}{a:Act}{subs:List (Option (Nat × Nat × Nat × Nat))}{s:Option (Nat × Nat × Nat × Nat)}{w' :World}{b' off' cap' :Nat}{nw:Array Value}(hst:St E g a fr σ)(hr:σ.get r=some (.nrow e size j e2 size2 l.length (l.map F)))(hr2:σ.get r2=some (.row e2 true size2 (l2.map G2)))(ho:σ.get o=some (.cells cs))(hne2:r≠r2)(hneo:r≠o)
 (hsub0:(g.loc r=.nilRow/\l=[]/\subs=[])∨∃b off cap n,g.loc r=.nest b off cap size n size2 subs)
 (hsl:subs.length=l.length) (hz:∀x∈l,(F x).length=size) (hFz:(F v).length=size) (hFj:(F v)[j]? =some (.sl none (l2.map G2)))
 (hos:w'.os=g.w.os) (htape:w'.tape=g.w.tape) (hout:w'.output=g.w.output) (hx:Ext g.w g.u w' g.u)
 (hheap:w'.heap[b']? =some (.cells nw e (0,0))) (hother:∀q,q < g.w.heap.size->q≠b' ->w'.heap[q]? =g.w.heap[q]?) (hb' :(AO.nrow e size j e2 size2 l.length (l.map F)).own (g.loc r) b' /\b' ∉ zTa subs∨g.w.heap.size<=b') (hu:g.u b' =0)
 (hnsz:nw.size=(off' +cap') * size) (hcap:cap' <=maxLen) (hle:l.length+1<=cap') (hwfs:g.w.heap.size<=w'.heap.size)
 (hold:∀i j' x c,l[i]? =some x->(F x)[j']? =some c->(l.length<=i∨j' ≠j)->RelP g.w g.u c (nw.getD ((off' +i) * size+j') undef))
 (holds:∀i s x,subs[i]? =some s->l[i]? =some x->∃rows,(F x)[j]? =some (.sl none rows)/\Kpa g.w g.u e2 size2 rows s (nw.getD ((off' +i) * size+j) undef))
 (hnew:∀j' c,(F v)[j']? =some c->j' ≠j->RelP g.w g.u c (nw.getD ((off' +l.length) * size+j') undef))
 (hnews:Kpa g.w g.u e2 size2 (l2.map G2) s (nw.getD ((off' +l.length) * size+j) undef)) (hsown:∀t,s=some t->(AO.row e2 true size2 (l2.map G2)).own (g.loc r2) t.1) (hnd:(zTa subs).Nodup):
 St E ⟨w',g.u,fun q=>if q=r then .nest b' off' cap' size (l++ [v]).length size2 (subs++ [s]) else g.loc q⟩ a (fr.mp (AV.clrs [r,r2,o])) (((σ.dels [r2,o]).mp (AV.clrs [r,r2,o])).upd r (.nrow e size j e2 size2 (l.length+1) ((l++ [v]).map F))):=by
 let g' :G:=⟨w',g.u,fun q=>if q=r then .nest b' off' cap' size (l++ [v]).length size2 (subs++ [s]) else g.loc q⟩;have hl' :g'.loc r=.nest b' off' cap' size (l++ [v]).length size2 (subs++ [s]):=if_pos rfl;have hk' :∀q,q≠r->g'.loc q=g.loc q:=fun q hq=>if_neg hq
 have hsubown:∀q,q∈zTa subs->(AO.nrow e size j e2 size2 l.length (l.map F)).own (g.loc r) q:=by
  intro q hq;rcases hsub0 with ⟨_,_,rfl⟩ | ⟨b,off,cap,n,h⟩
  .cases hq
  rw[h];exact .inr hq
 have hlt:∀q,(AO.nrow e size j e2 size2 l.length (l.map F)).own (g.loc r) q->q < g.w.heap.size:=fun q hq=>(hst.so.obj r _ hr).block_lt hq
 have hlt2:∀q,(AO.row e2 true size2 (l2.map G2)).own (g.loc r2) q->q < g.w.heap.size:=fun q hq=>(hst.so.obj r2 _ hr2).block_lt hq
 have hdis:∀q,(AO.nrow e size j e2 size2 l.length (l.map F)).own (g.loc r) q->¬(AO.row e2 true size2 (l2.map G2)).own (g.loc r2) q:=fun q h1 h2=>hne2 (hst.so.apart r r2 _ _ q hr hr2 h1 h2)
 have hb'sub:b' ∉ zTa subs:=by
  rcases hb' with h | h
  .exact h.2
  intro hin;have:=hlt _ (hsubown _ hin);omega
 have hb's:∀t,s=some t->t.1≠b' :=by
  rintro t ht rfl;rcases hb' with h | h
  .exact hdis _ h.1 (hsown t ht)
  have:=hlt2 _ (hsown t ht);omega
 have hN' :NAt g' r e size j e2 size2 (l.length+1) F (l++ [v]) b' off' cap' nw (subs++ [s]):=by
  refine ⟨hl',hheap,hnsz,hcap,by simpa using hle,fun z hz' =>?_,hu,by simp[hsl],by simp,?_,fun i' j' z c hi' hj' hc=>?_,fun i' s' z hs hz' =>?_⟩
  .rcases jCk.1 hz' with h | h
   .exact hz z h
   simp only[jCf]at h;rw[h];exact hFz
  .rw[vQa];cases hs:s with
   | none=>rw[show zTa [none]=[] from rfl,jCz];exact jBq.2 ⟨hb'sub,hnd⟩
   | some t=>
    rw[show zTa [some t]=[t.1] from rfl,jBq,List.nodup_append];refine ⟨fun hin=>?_,hnd,by simp,fun q hq q' hq' =>?_⟩
    .rcases jCk.1 hin with h | h
     .exact hb'sub h
     simp only[jCf]at h;exact hb's t hs h.symm
    simp only[jCf]at hq';subst hq';rintro rfl;exact hdis _ (hsubown _ hq) (hsown t hs)
  .rcases jBg i' l.length with h | h
   .rw[jAk h]at hi';exact (hold i' j' z c hi' hj' (by omega)).mono hx
   rw[jAh h]at hi';have:i' =l.length:=by have:=(jAc.1 hi').1;simp at this;omega
   subst this;rw[Nat.sub_self]at hi';cases hi';exact (hnew j' c hj' (by omega)).mono hx
  have hsame:∀t,s' =some t->t.1 < g.w.heap.size->t.1≠b' ->w'.heap[t.1]? =g.w.heap[t.1]? /\g.u t.1=g.u t.1:=fun t _ h1 h2=>⟨hother t.1 h1 h2,rfl⟩
  rcases jBg i' l.length with h | h
  .rw[jAk h]at hz';rw[jAk (by omega)]at hs;obtain ⟨rows,q1,q2⟩:=holds i' s' z hs hz';refine ⟨rows,q1,q2.mono hx.to0 fun t ht=>hsame t ht ?_ ?_⟩
   .subst ht;exact hlt _ (hsubown _ (yea hs))
   subst ht;rintro rfl;exact hb'sub (yea hs)
  rw[jAh h]at hz';have:i' =l.length:=by have:=(jAc.1 hz').1;simp at this;omega
  subst this;rw[Nat.sub_self]at hz';cases hz';rw[jAh (by omega),hsl,Nat.sub_self]at hs;cases hs;exact ⟨_,hFj,hnews.mono hx.to0 fun t ht=>hsame t ht (hlt2 _ (hsown t ht)) (hb's t ht)⟩
 refine hst.turn (g' :=g') hr [r2,o] (by simp[hne2,hneo]) (AV.clrs [r,r2,o]) rfl (fun c vx h=>Vha hx (fun q hq=>hk' q (by rintro rfl;simp at hq)) h) hx hk' hos htape hout (fun q hq hno=>⟨hother q hq ?_,rfl⟩) (yka hst.so.wf hwfs _) hN'.obj (fun q hq=>?_)
 .rintro rfl;rcases hb' with h | h
  .exact hno r _ (.inl rfl) hr h.1
  omega
 rw[hl']at hq;rcases hq with hq | hq
 .cases hq;rcases hb' with h | h
  .exact .inl ⟨r,_,.inl rfl,hr,h.1⟩
  exact .inr h
 have hq:q∈zTa (subs++ [s]):=hq;rw[vQa]at hq;rcases jCk.1 hq with hq | hq
 .exact .inl ⟨r,_,.inl rfl,hr,hsubown q hq⟩
 cases hs:s with
 | none=>rw[hs]at hq;cases hq
 | some t=>
  rw[hs,show zTa [some t]=[t.1] from rfl,jCf]at hq;subst hq;exact .inl ⟨r2,_,.inr (by simp),hr2,hsown t hs⟩
theorem J2a(hN:Nat.ble (k+1) E.N=true)(hx:fr.ev x=.ns r)(hr:σ.get r=some (.nrow e size j e2 size2 m (l.map F)))(hy:fr.ev y=.ls o)(ho:σ.get o=some (.cells cs))(hcs:cs=((F v).map AV.pv).set j (.hs r2 0))(hr2:σ.get r2=some (.row e2 true size2 (l2.map G2)))(hne:(Nat.beq r r2 || Nat.beq r o)=false)
 (hFj:(F v)[j]? =some (.sl none (l2.map G2))) (hm:m=l.length) (ht:TyOk E.P t ss sb sz (.slice e)) (he:TyOk E.P e size bytes zero d)
 (hzz:Nat.beq zero.cells.size size=true) (hs:Nat.ble 1 size=true) (hF:∀x,(F x).length=size) (hlim:(Nat.ble (lim * bytes) 140737488355328 && Nat.ble lim 9223372036854775807)=true) (h:app lim l [v]=some r'):
 OpTo E ⟨some k,.call ⟨.builtin .append, #[x,y], #[t,t]⟩,ty,pos,af,gu⟩ fr σ ((k,.ns r)::fr.mp (AV.clrs [r,r2,o])) (((σ.dels [r2,o]).mp (AV.clrs [r,r2,o])).upd r (.nrow e size j e2 size2 (m+1) (r'.map F))):=
 ⟨fun g a K Q hst hK=>by
  obtain ⟨hle,rfl⟩:=Vea h;subst hm;simp only[jAs]at hlim;simp only[Bool.or_eq_false_iff]at hne;have hne2:r≠r2:=by rintro rfl;simp at hne
  have hneo:r≠o:=by rintro rfl;simp at hne
  have hl1:=jAd hlim.1;have hl2:=jAd hlim.2;have hzz:=jAo hzz;have hs:=jAd hs;simp only[jDg]at hle;refine ⟨fun _ _=>trivial,?_⟩;rw[jAy _ _ _ (fun c=>by simp)];have h1:=hst.ev x;rw[hx]at h1;have h2:=hst.ev y;rw[hy]at h2;have hoo:=hst.so.obj o _ ho;have hlb:(l.length+1) * bytes<=140737488355328:=jCh (jAn _ hle) hl1;generalize ev2:a.eval y=v2 at h2;cases hoo with
  | @cells _ b0 t0 vs0 q1 q2 q3 q4 q5 q6=>
  cases h2 with
  | ls p1=>
  rw[q1]at p1;cases p1;have hsz0:vs0.size=size:=by rw[q3,hcs];simp[hF]
  have hjs:j < size:=by rw[<-hF v];exact (jAc.1 hFj).1
  have hnl:vs0.toList.length=1 * size:=by simp[hsz0]
  have hcells:∀q u,vs0.toList[q]? =some u->g.w.cell? (Addr.add ⟨b0,0,none⟩ q)=some u:=by
   intro q u hq;have hlt:q < vs0.size:=by simpa using (jAc.1 hq).1
   rw[qaa,jCc,kva q2 hlt];rw[jAf,<-jBw,hq];rfl
  have hone:=QMa q5;have hval:∀j' c,(F v)[j']? =some c->j' ≠j->RelP g.w g.u c (vs0.getD j' undef):=by
   intro j' c hc hne;have:=q6 j' (.pv c) (by rw[hcs,jBp (Ne.symm hne)];simp[hc]);cases this with
   | pv h=>exact h
  have hsv:Rel g (.hs r2 0) (vs0.getD j undef):=q6 j _ (by rw[hcs,jBm (by simp[hF];exact hjs)]);obtain ⟨s,hS,hSown⟩:=W5a (hst.so.obj r2 _ hr2) hsv;obtain ⟨old,ev1,hold,hsubs⟩:∃old:Option Addr × Option (Nat × Nat × Nat × Array Value),a.eval x=oldV l.length old/\k7b g.w e size l.length old/\
   ((old.2=none/\g.loc r=.nilRow/\l=[])∨∃b off cap cur subs,old.2=some (b,off,cap,cur)/\NAt g r e size j e2 size2 l.length F l b off cap cur subs):=by
   rcases vPb (hst.so.obj r _ hr) with ⟨hl,rfl,_⟩ | ⟨b,off,cap,cur,subs,hNA⟩
   .generalize a.eval x=vx at h1;cases h1 with
    | nsNil ad h1=>exact ⟨(ad,none),rfl,rfl,.inl ⟨rfl,hl,rfl⟩⟩
    | ns h1=>rw[hl]at h1;cases h1
   generalize a.eval x=vx at h1;cases h1 with
   | nsNil ad h1=>rw[hNA.loc]at h1;cases h1
   | @ns _ _ _ _ _ _ _ _ ad h1 ha=>
    rw[hNA.loc]at h1;cases h1;exact ⟨(some ad,some (b,off,cap,cur)),rfl,⟨hNA.heap,hNA.sz,hNA.le,hNA.max,ad,rfl,ha⟩,.inr ⟨b,off,cap,cur,subs,rfl,hNA⟩⟩
  obtain ⟨v',w',hrun,hres⟩:=jqa (ty:=ty) (c:=1) (m:=1) ht he hzz (by omega) hold hnl hcells hone hlb (by unfold maxLen;omega);rw[k2a (x:=x) (y:=y) (w:=g.w) (by rw[ev1,ev2];exact hrun),jBb];have hnewget:∀q,q < size->∀(nw:Array Value) (p:Nat),(∀q,q < vs0.toList.length->nw.getD (p+q) undef=vs0.toList.getD q undef)->nw.getD (p+q) undef=vs0.getD q undef:=by
   intro q hq nw p hh;rw[hh q (by rw[hnl];omega),jAm,jBw,jAf]
  cases hres with
  | same hm _ _=>omega
  | @room a0 b off cap cur ho2 hle2 _=>
   subst ho2;rcases hsubs with ⟨h3,_⟩ | ⟨b',off',cap',cur',subs,h3,hNA⟩
   .cases h3
   cases h3;have hfit:(off+l.length) * size+vs0.toList.length<=cur.size:=by rw[hnl,hNA.sz,<-jAv];exact jAn _ (by omega)
   have hW:=J0a (w:=g.w) (p:=(off+l.length) * size) (cl:=vs0.toList) hNA.heap hfit;have hxx:=hW.ext (u:=g.u) hNA.heap hNA.u;have hkeep:∀i q,i < l.length->q < size->(cur.toList.take ((off+l.length) * size)++vs0.toList++cur.toList.drop ((off+l.length) * size+vs0.toList.length)).toArray.getD ((off+i) * size+q) undef=cur.getD ((off+i) * size+q) undef:=fun i q hi hq=>hW.out _ (.inl (by
    have:(off+i+1) * size<=(off+l.length) * size:=jAn _ (by omega);rw[jAv (off+i)]at this;omega))
   have hst' :=VPa (v:=v) (o:=o) (cs:=cs) (w' :=g.w.setRow b _) (b' :=b) (off' :=off) (cap' :=cap) (s:=s) (subs:=subs) hst hr hr2 ho hne2 hneo (.inr ⟨_,_,_,_,hNA.loc⟩) hNA.sl hNA.z (hF v) hFj hW.os hW.tape hW.output hxx hW.here (fun q _ hq=>hW.other q hq) (.inl ⟨by rw[hNA.loc];exact .inl rfl,(jBq.1 hNA.nd).1⟩) hNA.u (hW.sz.trans hNA.sz) hNA.max hle2 (jBr hW.size.symm)
    (fun i j' x c hi hj hc=>by rw[hkeep i j' (jAc.1 hi).1 (by rw[<-hF x];exact (jAc.1 hj).1)];exact hNA.cell i j' x c hi hj hc)
    (fun i s x hi hx=>by rw[hkeep i j (jAc.1 hx).1 hjs];exact hNA.sub i s x hi hx)
    (fun j' c hc hne=>by rw[hnewget j' (by rw[<-hF v];exact (jAc.1 hc).1) _ _ hW.inn];exact hval j' c hc hne)
    (by rw[hnewget j hjs _ _ hW.inn];exact hS) hSown (jBq.1 hNA.nd).2
   refine hK _ _ (hst'.put (jAd hN) ?_);have:=Rel.ns (g:=⟨g.w.setRow b (cur.toList.take ((off+l.length) * size)++vs0.toList++cur.toList.drop ((off+l.length) * size+vs0.toList.length)).toArray,g.u,fun q=>if q=r then .nest b off cap size (l++ [v]).length size2 (subs++ [s]) else g.loc q⟩) (r:=r) (a:=⟨b,off * size,none⟩) (if_pos rfl) (fun _=>rfl);simpa using this
  | @fresh cap cells hc hle2 hmx htk=>
   have hb0:(g.w.drew.alloc (.cells cells e)).heap[g.w.heap.size]? =some (.cells cells e (0,0)):=heap_alloc_new g.w.drew _;have hxx:Ext g.w g.u (g.w.drew.alloc (.cells cells e)) g.u:=⟨by simp,fun _ _=>jBc _,fun q i hq _=>by
    simp only[World.cell?];rw[show (g.w.drew.alloc (.cells cells e)).heap[q]? =g.w.heap[q]? from Below.heap_alloc g.w.drew _ _ hq],fun r' hr' =>(Below.heap_alloc g.w.drew _ _ (kMa hr')).trans hr'⟩
   have hplen:(yja size (l.length * size) old).length=l.length * size:=by
    obtain ⟨a0,old⟩:=old;rcases hsubs with ⟨h3,_,rfl⟩ | ⟨b,off,cap0,cur,subs,h3,hNA⟩
    .dsimp only at h3;subst h3;simp[yja]
    dsimp only at h3;subst h3;simp only[yja,jBu,jCg,jBj,hNA.sz];rw[jAv,jCq];exact Nat.min_eq_left (jAn _ hNA.le)
   have hgetc:∀q,q < (l.length+1) * size->cells.getD q undef=(yja size (l.length * size) old++vs0.toList).getD q undef:=by
    intro q hq;rw[jAf,<-jBw,jAm,<-htk,jAt hq]
   have hgnew:∀q,q < size->cells.getD ((0+l.length) * size+q) undef=vs0.getD q undef:=by
    intro q hq;rw[jCc,hgetc _ (by rw[jAv];omega),jAm,jAh (by omega),hplen,jCq,jBw,jAf]
   obtain ⟨subs,hs0,hsl,hz,hol,hsu,hnd⟩:∃subs,((g.loc r=.nilRow/\l=[]/\subs=[])∨∃b off cap n,g.loc r=.nest b off cap size n size2 subs)/\subs.length=l.length/\(∀x∈l,(F x).length=size)/\
    (∀i j' x c,l[i]? =some x->(F x)[j']? =some c->(l.length<=i∨j' ≠j)->RelP g.w g.u c (cells.getD ((0+i) * size+j') undef))/\(∀i s x,subs[i]? =some s->l[i]? =some x->∃rows,(F x)[j]? =some (.sl none rows)/\Kpa g.w g.u e2 size2 rows s (cells.getD ((0+i) * size+j) undef))/\(zTa subs).Nodup:=by
    obtain ⟨a0,old⟩:=old;rcases hsubs with ⟨h3,h4,rfl⟩ | ⟨b,off,cap0,cur,subs,h3,hNA⟩
    .exact ⟨[],.inl ⟨h4,rfl,rfl⟩,rfl,fun x hx=>(by cases hx),fun i j' x c hi=>(by simp at hi),fun i s x hi=>(by simp at hi),List.nodup_nil⟩
    dsimp only at h3;subst h3;have hkeep:∀i q,i < l.length->q < size->cells.getD ((0+i) * size+q) undef=cur.getD ((off+i) * size+q) undef:=by
     intro i q hi hq;have h5:i * size+q < l.length * size:=by
      have:(i+1) * size<=l.length * size:=jAn _ hi;rw[jAv]at this;omega
     rw[jCc,hgetc _ (by rw[jAv];omega),jAm,jAk (by omega)];simp only[yja];rw[jAt h5,jBf,jBw,jAf]
     congr 2
     rw[jAv];omega
    exact ⟨subs,.inr ⟨_,_,_,_,hNA.loc⟩,hNA.sl,hNA.z,fun i j' x c hi hj hc=>by rw[hkeep i j' (jAc.1 hi).1 (by rw[<-hF x];exact (jAc.1 hj).1)];exact hNA.cell i j' x c hi hj hc,
     fun i s x hi hx=>by rw[hkeep i j (jAc.1 hx).1 hjs];exact hNA.sub i s x hi hx,(jBq.1 hNA.nd).2⟩
   have hst' :=VPa (v:=v) (o:=o) (cs:=cs) (w' :=g.w.drew.alloc (.cells cells e)) (b' :=g.w.heap.size) (off' :=0) (cap' :=cap) (s:=s) (subs:=subs) hst hr hr2 ho hne2 hneo hs0 hsl hz (hF v) hFj rfl rfl rfl hxx hb0 (fun q hq _=>Below.heap_alloc g.w.drew _ _ hq) (.inr (jBc _)) (hst.so.wf _ (jBc _)) (by rw[jCc];exact hc) hmx hle2 hxx.size hol hsu
    (fun j' c hc hne=>by rw[hgnew j' (by rw[<-hF v];exact (jAc.1 hc).1)];exact hval j' c hc hne) (by rw[hgnew j hjs];exact hS) hSown hnd
   refine hK _ _ (hst'.put (jAd hN) ?_);have:=Rel.ns (g:=⟨g.w.drew.alloc (.cells cells e),g.u,fun q=>if q=r then .nest g.w.heap.size 0 cap size (l++ [v]).length size2 (subs++ [s]) else g.loc q⟩) (r:=r) (a:=⟨g.w.heap.size,0,none⟩) (if_pos rfl) (fun _=>by simp);simpa using this⟩
end
end
section
open Go.RowKit Go.Lib Go.Proofs.Tryz
variable {E:Env} {fr:Fr} {σ:Sto} {K:Post}
theorem St.split{g g' :G}{a:Act}(h:St E g a fr σ){r r1:Nat}{ob0 ob ob1:AO}(hr:σ.get r=some ob0)(hf1:fr.has r1=false)(hs1:σ.has r1=false)(hg1:σ.get r1=none)(hw:g'.w=g.w)(hu:g'.u=g.u)(hl:∀k,k≠r->k≠r1->g'.loc k=g.loc k)(hle:Wxa (g.loc r) (g'.loc r))
 (hok:ob0.has r1=false) (hob:RelO g' r ob) (hob1:RelO g' r1 ob1) (hsub:∀b,ob.own (g'.loc r) b->ob0.own (g.loc r) b) (hsub1:∀b,ob1.own (g'.loc r1) b->ob0.own (g.loc r) b) (hdis:∀b,ob.own (g'.loc r) b->¬ob1.own (g'.loc r1) b)
 (hhas:∀o ob2,o≠r->σ.get o=some ob2->ob2.has r=true->∃cs,ob2=.cells cs∨∃c v,ob2=.hold c v):St E g' a fr ((r1,ob1)::σ.upd r ob):=by
 have hne:r≠r1:=by rintro rfl;rw[hr]at hg1;cases hg1
 have hx:Ext g.w g.u g'.w g'.u:=by rw[hw,hu];exact Ext.refl _ _
 have hrel:∀c v,c.has r1=false->Rel g c v->Rel g' c v:=fun c v hc hv=>hv.more hx fun o ho=>by
  by_cases h1:o=r
  .subst h1;exact hle
  by_cases h2:o=r1
  .subst h2;rw[hc]at ho;cases ho
  exact .inl (hl o h1 h2)
 have hgu:=Sto.get_upd (ob:=ob) hr;have hget:∀o ob',Sto.get ((r1,ob1)::σ.upd r ob) o=some ob' ->(o=r1/\ob' =ob1)∨(o=r/\ob' =ob)∨(o≠r/\o≠r1/\σ.get o=some ob'):=by
  intro o ob' ho;rw[Sto.get_cons]at ho;split at ho
  .rename_i h1;cases ho;exact .inl ⟨h1.symm,rfl⟩
  rename_i h1;rw[hgu]at ho;split at ho
  .rename_i h2;cases ho;exact .inr (.inl ⟨h2,rfl⟩)
  rename_i h2;exact .inr (.inr ⟨h2,Ne.symm h1,ho⟩)
 refine ⟨fun d=>hrel _ _ ?_ (h.fr d),h.n,by rw[hw];exact h.df,⟨?_,?_,?_,?_,fun k hk=>by rw[hu];exact h.so.wf k (by rw[<-hw];exact hk)⟩⟩
 .cases hh:(fr.get d).has r1 with
  | false=>rfl
  | true=>rw[Fr.has_get hh]at hf1;cases hf1
 .intro o ob' ho;rcases hget o ob' ho with ⟨rfl,rfl⟩ | ⟨rfl,rfl⟩ | ⟨h1,h2,ho⟩
  .exact hob1
  .exact hob
  have hro:=h.so.obj o ob' ho;have hn:ob'.has r1=false:=by
   cases hh:ob'.has r1 with
   | false=>rfl
   | true=>rw[Sto.has_get ho hh]at hs1;cases hs1
  cases ob' with
  | cells cs=>
   cases hro with
   | @cells _ b t vs q1 q2 q3 q4 q5 q6=>
    refine .cells ((hl o h1 h2).trans q1) (by rw[hw];exact q2) q3 (by rw[hu];exact q4) q5 fun i c hi=>hrel c _ ?_ (q6 i c hi)
    cases hh:c.has r1 with
    | false=>rfl
    | true=>rw[show (AO.cells cs).has r1=AV.hasL r1 cs from rfl,AV.hasL_of hi hh]at hn;cases hn
  | hold c v=>cases hro with
   | hold q1=>exact .hold (hrel c _ hn q1)
  | _=>exact hro.mono hx (hl o h1 h2) (fun _ hk=>by cases hk) fun b _=>by rw[hw,hu];exact ⟨rfl,rfl⟩
 .intro o o' oa ob' b h1 h2 h3 h4;rcases hget o oa h1 with ⟨rfl,rfl⟩ | ⟨rfl,rfl⟩ | ⟨p1,p2,p3⟩ <;> rcases hget o' ob' h2 with ⟨rfl,rfl⟩ | ⟨rfl,rfl⟩ | ⟨q1,q2,q3⟩
  .rfl
  .exact absurd h3 (hdis b h4)
  .rw[hl o' q1 q2]at h4;exact absurd (h.so.apart r o' _ _ b hr q3 (hsub1 b h3) h4) (Ne.symm q1)
  .exact absurd h4 (hdis b h3)
  .rfl
  .rw[hl o' q1 q2]at h4;exact absurd (h.so.apart o o' _ _ b hr q3 (hsub b h3) h4) (Ne.symm q1)
  .rw[hl o p1 p2]at h3;exact absurd (h.so.apart o r _ _ b p3 hr h3 (hsub1 b h4)) p1
  .rw[hl o p1 p2]at h3;exact absurd (h.so.apart o o' _ _ b p3 hr h3 (hsub b h4)) p1
  rw[hl o p1 p2]at h3;rw[hl o' q1 q2]at h4;exact h.so.apart o o' _ _ b p3 q3 h3 h4
 .intro o oa b h1 h2;rcases hget o oa h1 with ⟨rfl,rfl⟩ | ⟨rfl,rfl⟩ | ⟨p1,p2,p3⟩
  .exact h.so.mine r _ b hr (hsub1 b h2)
  .exact h.so.mine o _ b hr (hsub b h2)
  rw[hl o p1 p2]at h2;exact h.so.mine o _ b p3 h2
 exact ⟨by rw[hw];exact h.so.old.os,by rw[hw];exact h.so.old.tape,by rw[hw];exact h.so.old.output,h.so.old.ext.trans hx,fun b hb hs=>by rw[hw,hu];exact h.so.old.block b hb hs⟩
section
variable {κ β:Type} [BEq κ] [LawfulBEq κ] {KK:KeyK κ} {G2:β->List PV} {P:Program} {ρ:Operand->AV} {t kt e e1:TypeId} {m x y:Operand} {o r size sz1 bytes k0:Nat} {d:TypeDesc} {es:List (κ × List β)} {k:κ} {l:List β}
variable {dst:Option Tmp} {ty:TypeId} {pos:String} {af:Array Edge} {gu:Option (Nat × Bool)}
abbrev mencR(KK:KeyK κ)(G2:β->List PV)(es:List (κ × List β)):List (Value × List (List PV)):=es.map fun p=>(KK.kf p.1,p.2.map G2)
structure MAt (g:G) (o:Nat) (e:TypeId) (size:Nat) (tk:Option Nat) (KK:KeyK κ) (G2:β->List PV) (es:List (κ × List β)) (b clock:Nat) (ents:Array MapEntry) (subs:List (Option (Nat × Nat × Nat × Nat))):Prop where
 loc:g.loc o=.mapr b subs
 heap:g.w.heap[b]? =some (.map ents clock)
 u:g.u b=0
 n:ents.size=es.length
 sl:subs.length=es.length
 nd:(b::zTa subs).Nodup
 key:∀(i:Nat) p x,es[i]? =some p->ents[i]? =some x->x.key=KK.kf p.1
 cv:∀(i:Nat) x,ents[i]? =some x->cellV x.val=true
 ent:∀(i:Nat) p x,es[i]? =some p->ents[i]? =some x->(tk=some i/\subs[i]? =some none∨tk≠some i/\∃s,subs[i]? =some (some s)/\joa g.w g.u e false size (p.2.map G2) s x.val)
theorem MAt.obj{g:G}{tk:Option Nat}{b clock:Nat}{ents:Array MapEntry}{subs:List (Option (Nat × Nat × Nat × Nat))}(h:MAt g o e1 size tk KK G2 es b clock ents subs):RelO g o (.mapr e1 size tk (mencR KK G2 es)):=
 .mapr h.loc h.heap h.u (by simpa[mencR]using h.n) (by simpa[mencR]using h.sl) h.nd fun i k' rows hi=>by
  simp only[mencR,jAq,jAl,Prod.mk.injEq]at hi;obtain ⟨p,hp,rfl,rfl⟩:=hi;have hlt:i < ents.size:=by rw[h.n];exact (jAc.1 hp).1
  have hx:=jBl hlt;exact ⟨_,hx,h.key i p _ hp hx,h.cv i _ hx,h.ent i p _ hp hx⟩
def Qqa:Loc->Loc
 | .map b=>.mapr b []
 | l=>l
def AV.mrs(o:Nat):AV->AV
 | .mp x=>bif Nat.beq x o then .mr o else .mp x
 | c=>bif c.has o then .any else c
theorem rel_mrs{g g' :G}(hx:Ext g.w g.u g'.w g'.u)(hk:∀k,k≠o->g'.loc k=g.loc k)(hl:g'.loc o=Qqa (g.loc o)){c:AV}{v:Value}(h:Rel g c v):Rel g' (c.mrs o) v:=by
 cases c
 case mp x=>
  cases hb:Nat.beq x o with
  | true=>
   rw[show AV.mrs o (.mp x)=.mr o by show (bif Nat.beq x o then AV.mr o else AV.mp x)=_;rw[hb];rfl];have:x=o:=jAo hb;subst this;cases h with
   | mp h1=>exact .mr (subs:=[]) (by rw[hl,h1];rfl)
  | false=>
   rw[show AV.mrs o (.mp x)=.mp x by show (bif Nat.beq x o then AV.mr o else AV.mp x)=_;rw[hb];rfl];have hne:x≠o:=by rintro rfl;simp at hb
   exact h.mono hx fun k hk' =>hk k (by have:=jAo (show Nat.beq x k=true from hk');subst this;exact hne)
 all_goals exact Qna hx hk h
theorem St.mapr{g:G}{a:Act}(h:St E g a fr σ)(ho:σ.get o=some (.mapo false []))(e:TypeId)(size:Nat):
 St E ⟨g.w,g.u,fun k=>if k=o then Qqa (g.loc o) else g.loc k⟩ a (fr.mp (AV.on (AV.mrs o))) (((σ.dels []).mp (AV.on (AV.mrs o))).upd o (.mapr e size none [])):=by
 have hl:(⟨g.w,g.u,fun k=>if k=o then Qqa (g.loc o) else g.loc k⟩:G).loc o=Qqa (g.loc o):=if_pos rfl;have hob:=h.so.obj o _ ho;generalize hms:([]:List (Value × List PV))=ms at hob;cases hob with
 | @mapo _ _ b clock ents h1 h2 h3 h4 h5=>
  subst hms;refine h.turn (g' :=⟨g.w,g.u,fun k=>if k=o then Qqa (g.loc o) else g.loc k⟩) ho [] (by simp) _ rfl (fun c v=>vOb fun c v=>rel_mrs (g:=g) (g' :=⟨g.w,g.u,fun k=>if k=o then Qqa (g.loc o) else g.loc k⟩) (Ext.refl _ _) (fun k hk=>if_neg hk) hl) (Ext.refl _ _) (fun k hk=>if_neg hk) rfl rfl rfl (fun _ _ _=>⟨rfl,rfl⟩) h.so.wf ?_ (fun q hq=>.inl ⟨o,_,.inl rfl,ho,?_⟩)
  .exact .mapr (subs:=[]) (by rw[hl,h1];rfl) h2 h3 h4 rfl (by simp[zTa]) (fun i k rows hi=>by simp at hi)
  rw[hl,h1]at hq;rw[h1];rcases hq with hq | hq
  .exact hq
  cases hq
end
end
section
section
variable {E:Env} {ρ:Operand->AV} {P:Program} {fr FR:Fr} {σ:Sto} {dst:Option Nat} {ty:TypeId} {pos:String} {af:Array Edge} {gu:Option (Nat × Bool)}
theorem zDa{x:Operand}{r i j0:Nat}(hx:ρ x=.np r i j0):EvQ P ⟨dst,.nilCheck x,ty,pos,af,gu⟩ ρ σ (.np r i j0):=
 ⟨fun c=>by simp,fun g ρv h _=>by
  have h1:=h x (by simp[Op.operands]);rw[hx]at h1;generalize hv:ρv x=v at h1;cases h1 with
  | np hl hi=>
   refine ⟨_,?_,.np hl hi⟩;simp[execOp,hv,go_sem]⟩
theorem zta{x:Operand}{t:TypeId}{r i j0 f q:Nat}{fs:Array Field}{fl:Field}{fsize fbytes:Nat}{fzero:Value}{fd:TypeDesc}(hx:ρ x=.np r i j0)(ht:P.underlying t=some (.struct fs))(hf:fs[f]? =some fl)(hft:TyOk P fl.type fsize fbytes fzero fd)(hz:Nat.beq fsize 0=false)(hq:Nat.beq (j0+fl.offset) q=true):
 EvQ P ⟨dst,.fieldAddr t x f,ty,pos,af,gu⟩ ρ σ (.np r i q):=by
 rw[<-jAo hq];exact VOa hx ht hf hft hz
theorem wza{x:Operand}{t:TypeId}{r i k0 j0 f q:Nat}{fs:Array Field}{fl:Field}{fsize fbytes:Nat}{fzero:Value}{fd:TypeDesc}(hx:ρ x=.hnp r i k0 j0)(ht:P.underlying t=some (.struct fs))(hf:fs[f]? =some fl)(hft:TyOk P fl.type fsize fbytes fzero fd)(hz:Nat.beq fsize 0=false)(hq:Nat.beq (j0+fl.offset) q=true):
 EvQ P ⟨dst,.fieldAddr t x f,ty,pos,af,gu⟩ ρ σ (.hnp r i k0 q):=by
 rw[<-jAo hq];exact QZa hx ht hf hft hz
theorem ev_min3{k:IntKind}{a b c:Int}{x y z:Operand}{ats:Array TypeId}(hx:ρ x=.pv (.b (.int k a)))(hy:ρ y=.pv (.b (.int k b)))(hz:ρ z=.pv (.b (.int k c))):EvQ P ⟨dst,.call ⟨.builtin .min, #[x,y,z],ats⟩,ty,pos,af,gu⟩ ρ σ (.pv (.b (.int k (min (min a b) c)))):=
 ⟨fun c=>by simp,fun g ρv h _=>by
  have h1:=h x (by simp[Op.operands,Call.operands]);have h2:=h y (by simp[Op.operands,Call.operands]);have h3:=h z (by simp[Op.operands,Call.operands]);rw[hx]at h1;rw[hy]at h2;rw[hz]at h3;have e1:=kga h1;have e2:=kga h2;have e3:=kga h3;refine ⟨.int k (min (min a b) c),?_,.pv (.b rfl)⟩;have q1:(if b < a then b else a)=min a b:=by omega
  have q2:(if c < min a b then c else min a b)=min (min a b) c:=by omega
  simp[execOp,resolve,Deferred.ofValue,invoke,builtin,Builtin.min_,Builtin.min2,e1,e2,e3,go_sem,q1,q2]⟩
end
section
variable {E:Env} {FR:Fr} {σ:Sto} {ty:TypeId} {pos:String} {af:Array Edge} {gu:Option (Nat × Bool)} {α β:Type} {F:α->List PV} {G2:β->List PV} {l:List α} {l2:List β} {e e2 t' :TypeId} {size size2 size' bytes' j j0 m r r2:Nat} {zero' :Value} {d' :TypeDesc} {x y:Operand} {n n2:Int} {v v' :α} {w2 w2' :β} {pcs:List PV}
theorem Qra(hx:FR.ev x=.np r n.toNat j0)(hr:σ.get r=some (.nrow e size j e2 size2 m (l.map F)))(hy:(FR.ev y).weak.cells=some (pcs.map .pv))(ht:TyOk E.P t' size' bytes' zero' d')(hz:Nat.beq pcs.length size' =true)
 (hv:idx l n=some v) (hle:Nat.ble (j0+pcs.length) (F v).length=true) (hj:(Nat.ble (j+1) j0 || Nat.ble (j0+pcs.length) j)=true) (hF' :F v' =(F v).take j0++pcs++(F v).drop (j0+pcs.length)):
 HvS E ⟨none,.store t' x y,ty,pos,af,gu⟩ FR σ (σ.upd r (.nrow e size j e2 size2 m ((l.set n.toNat v').map F))):=
 ⟨fun fr he _=>Zaa ((he x (by simp[Op.operands,Call.operands])).trans hx) hr (by rw[he y (by simp[Op.operands,Call.operands])];exact hy) ht hz hv hle hj hF'⟩
theorem frLe_mp1{fr:Fr}:FrLe (fr.mp (AV.clr r2)) (fr.clrs [r2]):=fun d=>by
 rw[Fr.get_mp rfl,Fr.get_clrs];exact .inr (.inl (by simp[AV.clr,AV.clrs]))
theorem YZa(hx:FR.ev x=.np r n.toNat j0)(hr:σ.get r=some (.nrow e size j e2 size2 m (l.map F)))(hy:FR.ev y=.hs r2 0)(hr2:σ.get r2=some (.row e2 true size2 (l2.map G2)))(hne:Nat.beq r r2=false)(ht:TyOk E.P t' 1 bytes' zero' d')
 (hj:Nat.beq j0 j=true) (hv:idx l n=some v) (hm:n.toNat=m) (hjs:Nat.ble (j+1) (F v).length=true) (hF' :F v' =(F v).set j (.sl none (l2.map G2))):
 HvP E ⟨none,.store t' x y,ty,pos,af,gu⟩ FR σ [r2] (((σ.dels [r2]).mp (AV.clr r2)).upd r (.nrow e size j e2 size2 (m+1) ((l.set n.toNat v').map F))):=
 ⟨fun fr he _=>Qla (qwb ((he x (by simp[Op.operands,Call.operands])).trans hx) hr ((he y (by simp[Op.operands,Call.operands])).trans hy) hr2 hne ht hj hv hm hjs hF') frLe_mp1 kGa⟩
end
end
section
section
variable {P:Program} {t:TypeId}
variable {ρ:Operand->AV} {σ:Sto} {dst:Option Nat} {ty:TypeId} {pos:String} {af:Array Edge} {gu:Option (Nat × Bool)} {x y:Operand} {ss sb:Nat} {sz:Value}
end
end
section
variable {E:Env} {fr:Fr} {σ:Sto} {K:Post} {k:KS} {ops:Array Oper} {T:Tab} {c:AV} {t ty:TypeId} {pos:String} {af:Array Edge} {row:VAa}
theorem J3a(m:Nat):∀(k i:Nat),JRa m [] k i=[(List.range' i k).map fun j=> !(Nat.ble m j)]
 | 0,i=>rfl
 | k+1,i=>by
  unfold JRa;rw[J3a m k (i+1),List.range'_succ];cases h:Nat.ble m i <;> simp[h]
theorem J4a:∀(cs:List AV) (bs:List Bool),cs.length<=bs.length->(bs.take cs.length).all id=true->JTa cs bs=cs
 | [],bs,_,_=>by cases bs <;> rfl
 | c::cs,[],h,_=>by simp at h
 | c::cs,b::bs,h,hb=>by
  simp at h hb;unfold JTa;rw[J4a cs bs (by omega) (by simpa using hb.2),hb.1];rfl
theorem drX0{id:Nat}{l:List Oper}(m:Nat)(new:Fr){cs:List AV}{az:ObX}{σ' :Sto}(hmix:E.P.follows .mixedOrders=true)(hok:Qja l m m []=true)(hm:Nat.ble m l.length=true)(hN:((l.take m).all fun o=>o.dst.all fun d=>Nat.ble (d+1) E.N)=true)
 (hT:kVa E.P []) (hp:wKa E l.toArray (new++fr) σ (l.take m) cs az) (hfree:qob fr σ cs az=true) (hσ:objX (fun _=>true) 0 az++σ=σ') (hnew:jua (l.take m) cs []=new) (h:AWPL E l.toArray (l.drop m) (new++fr) σ' K):AWP E (.region id l.toArray true) fr σ K:=by
 have hm' :=jAd hm;have hlen:cs.length=m:=by rw[hp.len.1,jBu];omega
 have hl:VGa [] E.N l m m [] 1 cs fr σ' =some [(new++fr,σ')]:=by
  unfold VGa;rw[J3a];have hall:List.all (List.take m ((List.range' 0 l.length).map fun j=> !(Nat.ble m j))) _root_.id=true:=by
   rw[jAw];intro x hx;obtain ⟨i,hi,rfl⟩:=List.mem_iff_getElem.1 hx;simp at hi;cases hb:Nat.ble m i with
   | true=>have:=jAd hb;omega
   | false=>simp[hb]
  have hmask:=J4a cs ((List.range' 0 l.length).map fun j=> !(Nat.ble m j)) (by simp;omega) (by rw[hlen];exact hall);have ht:VFa [] E.N l m 1 ((List.range' 0 l.length).map fun j=> !(Nat.ble m j)) (jua (l.take m) (JTa cs ((List.range' 0 l.length).map fun j=> !(Nat.ble m j))) []++fr) σ' =some [(new++fr,σ')]:=by
   rw[hmask,hnew];unfold VFa;rw[hall]
  unfold z0b;dsimp only;rw[ht];rfl
 exact W2a m m 1 [] new (new++fr) σ' hT hmix hok (Nat.ble_eq_true_of_le (jBc _)) hm rfl hN hp hfree hσ hnew hl (fun p hp=>by
  rw[jCf.1 hp];exact ⟨qKa,kGa⟩) h
theorem drA{id:Nat}{l:List Oper}(m:Nat)(new:Fr){cs:List AV}{az:ObX}{σ' :Sto}(hmix:E.P.follows .mixedOrders=true)(hok:Qja l m m []=true)(hm:Nat.ble m l.length=true)(hN:((l.take m).all fun o=>o.dst.all fun d=>Nat.ble (d+1) E.N)=true)
 (hp:wKa E l.toArray (new++fr) σ (l.take m) cs az) (hfree:qob fr σ cs az=true) (hσ:objX (fun _=>true) 0 az++σ=σ') (hnew:jua (l.take m) cs []=new) (h:(GS.ops l.toArray (l.drop m) (new++fr) σ' k).holds E):(GS.code (.region id l.toArray true) fr σ k).holds E:=
 drX0 m new hmix hok hm hN (fun t r h=>by cases h) hp hfree hσ hnew h
theorem vTb:∀(az:ObX) (n:Nat),(az.all fun x=>x.isNone)=true->idX az=[]/\objX (fun _=>true) n az=[]
 | [],_,_=>⟨rfl,rfl⟩
 | none::az,n,h=>vTb az (n+1) (by simpa using h)
 | some x::az,n,h=>by simp at h
theorem dr{id:Nat}{l:List Oper}(m:Nat)(new:Fr){cs:List AV}{az:ObX}(hmix:E.P.follows .mixedOrders=true)(hok:Qja l m m []=true)(hm:Nat.ble m l.length=true)(hN:((l.take m).all fun o=>o.dst.all fun d=>Nat.ble (d+1) E.N)=true)
 (hp:wKa E l.toArray (new++fr) σ (l.take m) cs az) (hnew:jua (l.take m) cs []=new) (h:(GS.ops l.toArray (l.drop m) (new++fr) σ k).holds E) (hz:(az.all fun x=>x.isNone)=true:=by rfl):(GS.code (.region id l.toArray true) fr σ k).holds E:=by
 obtain ⟨h1,h2⟩:=vTb az 0 hz;refine drX0 m new hmix hok hm hN (fun t r h=>by cases h) hp ?_ (by rw[h2];rfl) hnew h;unfold qob;rw[h1];simp[YHa];intro x hx;cases x <;> simp
theorem pqA{o:Oper}{l:List Oper}{cs:List AV}{az:ObX}(hT:kVa E.P T)(hq:qval T fr.ev σ o.op=some c)(hg:qEa ops fr o)(hr:wKa E ops fr σ l cs az):wKa E ops fr σ (o::l) (c::cs) (none::az):=pqX hT hq hg hr
theorem pq{o:Oper}{l:List Oper}{cs:List AV}{az:ObX}(hT:kVa E.P T)(hq:qval T fr.ev σ o.op=some c)(hg:qEa ops fr o)(hr:wKa E ops fr σ l cs az):wKa E ops fr σ (o::l) (c::cs) (none::az):=pqX hT hq hg hr
theorem pnA{d:Nat}{gu:Option (Nat × Bool)}{l:List Oper}{cs ds:List AV}{az:ObX}(id:Nat)(hT:kVa E.P T)(ht:T.get t=some row)(hz:w2a (row.zero.cells.toList.map vla)=some ds)(hz2:row.zero.cells.toList.all cellV=true)(hg:qEa ops fr ⟨some d,.alloc t,ty,pos,af,gu⟩)(hr:wKa E ops fr σ l cs az):wKa E ops fr σ (⟨some d,.alloc t,ty,pos,af,gu⟩::l) (.ptr id 0::cs) (some (id,.cells ds)::az):=pnX id hT ht hz hz2 hg hr
end
theorem mixed:prog.follows .mixedOrders=true:=by kernel_rfl
theorem qUa:YDa prog 37:=⟨by kernel_rfl,by kernel_rfl⟩
theorem Y0a:YDa prog 80:=⟨by kernel_rfl,by kernel_rfl⟩
theorem VQa:YDa prog 71:=⟨by kernel_rfl,by kernel_rfl⟩
theorem y2a:YDa prog 78:=⟨by kernel_rfl,by kernel_rfl⟩
theorem jAa:YDa prog 141:=⟨by kernel_rfl,by kernel_rfl⟩
theorem Wya (w : World) : Sem.run prog (Array.mapM (fun (f : Field) => do pure (f.offset, <- sizeOf f.type)) #[⟨"Entry", 3, 0, false, "", "", 0⟩, ⟨"Domain", 9, 1, false, "", "", 8⟩, ⟨"To", 31, 2, false, "", "", 24⟩]) w = .ok #[(0, 1), (1, 1), (2, 1)] w := by kernel_rfl
theorem J5a (w : World) : Sem.run prog (Array.mapM (fun (f : Field) => do pure (f.offset, <- sizeOf f.type)) #[⟨"Id", 3, 0, false, "", "", 0⟩, ⟨"Mail", 30, 1, false, "", "", 8⟩, ⟨"Since", 3, 6, false, "", "", 112⟩, ⟨"Tries", 3, 7, false, "", "", 120⟩, ⟨"Due", 3, 8, false, "", "", 128⟩, ⟨"To", 95, 9, false, "", "", 136⟩]) w = .ok #[(0, 1), (1, 5), (6, 1), (7, 1), (8, 1), (9, 1)] w := by kernel_rfl
theorem VRa (w : World) : Sem.run prog (Array.mapM (fun (f : Field) => do pure (f.offset, <- sizeOf f.type)) #[⟨"From", 9, 0, false, "", "", 0⟩, ⟨"To", 23, 1, false, "", "", 16⟩, ⟨"Id", 9, 2, false, "", "", 40⟩]) w = .ok #[(0, 1), (1, 1), (2, 1)] w := by kernel_rfl
theorem J6a (w : World) : Sem.run prog (Array.mapM (fun (f : Field) => do pure (f.offset, <- sizeOf f.type)) #[⟨"Code", 3, 0, false, "", "", 0⟩, ⟨"Index", 3, 1, false, "", "", 8⟩]) w = .ok #[(0, 1), (1, 1)] w := by kernel_rfl
theorem J7a (w : World) : Sem.run prog (Array.mapM (fun (f : Field) => do pure (f.offset, <- sizeOf f.type)) #[⟨"Name", 9, 0, false, "", "", 0⟩, ⟨"Value", 9, 1, false, "", "", 16⟩]) w = .ok #[(0, 1), (1, 1)] w := by kernel_rfl
theorem z9b (w : World) : Sem.run prog (Array.mapM (fun (f : Field) => do pure (f.offset, <- sizeOf f.type)) #[⟨"Envelope", 25, 0, false, "", "", 0⟩, ⟨"Message", 28, 3, false, "", "", 56⟩]) w = .ok #[(0, 3), (3, 2)] w := by kernel_rfl
theorem Wza (w : World) : Sem.run prog (Array.mapM (fun (f : Field) => do pure (f.offset, <- sizeOf f.type)) #[⟨"Fields", 26, 0, false, "", "", 0⟩, ⟨"Body", 22, 1, false, "", "", 24⟩]) w = .ok #[(0, 1), (1, 1)] w := by kernel_rfl
theorem WAa (w : World) : Sem.run prog (Array.mapM (fun (f : Field) => do pure (f.offset, <- sizeOf f.type)) #[⟨"Entry", 3, 0, false, "", "", 0⟩, ⟨"Number", 3, 1, false, "", "", 8⟩, ⟨"Result", 3, 2, false, "", "", 16⟩]) w = .ok #[(0, 1), (1, 1), (2, 1)] w := by kernel_rfl
theorem J8a (w : World) : Sem.run prog (Array.mapM (fun (f : Field) => do pure (f.offset, <- sizeOf f.type)) #[⟨"Entries", 52, 0, false, "", "", 0⟩, ⟨"Next", 3, 1, false, "", "", 24⟩]) w = .ok #[(0, 1), (1, 1)] w := by kernel_rfl
theorem Q0a (w : World) : Sem.run prog (Array.mapM (fun (f : Field) => do pure (f.offset, <- sizeOf f.type)) #[⟨"Address", 9, 0, false, "", "", 0⟩, ⟨"Notify", 3, 1, false, "", "", 16⟩]) w = .ok #[(0, 1), (1, 1)] w := by kernel_rfl
theorem Y1a (w : World) : Sem.run prog (Array.mapM (fun (f : Field) => do pure (f.offset, <- sizeOf f.type)) #[⟨"Kind", 3, 0, false, "", "", 0⟩, ⟨"Now", 3, 1, false, "", "", 8⟩, ⟨"Mail", 30, 2, false, "", "", 16⟩, ⟨"Attempt", 33, 7, false, "", "", 120⟩, ⟨"Results", 31, 10, false, "", "", 168⟩]) w = .ok #[(0, 1), (1, 1), (2, 5), (7, 3), (10, 1)] w := by kernel_rfl
theorem WBa (w : World) : Sem.run prog (Array.mapM (fun (f : Field) => do pure (f.offset, <- sizeOf f.type)) #[⟨"Recipient", 78, 0, false, "", "", 0⟩, ⟨"Result", 3, 2, false, "", "", 24⟩, ⟨"Busy", 4, 3, false, "", "", 32⟩]) w = .ok #[(0, 2), (2, 1), (3, 1)] w := by kernel_rfl
theorem jBa (w : World) : Sem.run prog (Array.mapM (fun (f : Field) => do pure (f.offset, <- sizeOf f.type)) #[⟨"b", 22, 0, false, "", "posthouse/posthouseref4", 0⟩, ⟨"bad", 4, 1, false, "", "posthouse/posthouseref4", 24⟩]) w = .ok #[(0, 1), (1, 1)] w := by kernel_rfl
theorem J9a (w : World) : Sem.run prog (Array.mapM (fun (f : Field) => do pure (f.offset, <- sizeOf f.type)) #[⟨"entry", 3, 0, false, "", "posthouse/queue", 0⟩, ⟨"domain", 9, 1, false, "", "posthouse/queue", 8⟩]) w = .ok #[(0, 1), (1, 1)] w := by kernel_rfl
theorem VSa (w : World) : Sem.run prog (Array.mapM (fun (f : Field) => do pure (f.offset, <- sizeOf f.type)) #[⟨"b", 22, 0, false, "", "posthouse/spool", 0⟩, ⟨"bad", 4, 1, false, "", "posthouse/spool", 24⟩]) w = .ok #[(0, 1), (1, 1)] w := by kernel_rfl
theorem VTa (w : World) : Sem.run prog (Array.mapM (fun (f : Field) => do pure (f.offset, <- sizeOf f.type)) #[⟨"out", 22, 0, false, "", "posthouse/spool", 0⟩]) w = .ok #[(0, 1)] w := by kernel_rfl
theorem ZUa : TyOk prog 33 3 48 (.agg #[.int .i64 0, .string ⟨#[]⟩, .slice none 0 0]) (.struct #[⟨"Entry", 3, 0, false, "", "", 0⟩, ⟨"Domain", 9, 1, false, "", "", 8⟩, ⟨"To", 31, 2, false, "", "", 24⟩]) := ⟨by kernel_rfl, by kernel_rfl⟩
theorem zqa : TyOk prog 97 10 160 (.agg #[.int .i64 0, .string ⟨#[]⟩, .slice none 0 0, .string ⟨#[]⟩, .slice none 0 0, .slice none 0 0, .int .i64 0, .int .i64 0, .int .i64 0, .slice none 0 0]) (.struct #[⟨"Id", 3, 0, false, "", "", 0⟩, ⟨"Mail", 30, 1, false, "", "", 8⟩, ⟨"Since", 3, 6, false, "", "", 112⟩, ⟨"Tries", 3, 7, false, "", "", 120⟩, ⟨"Due", 3, 8, false, "", "", 128⟩, ⟨"To", 95, 9, false, "", "", 136⟩]) := ⟨by kernel_rfl, by kernel_rfl⟩
theorem Zba : TyOk prog 25 3 56 (.agg #[.string ⟨#[]⟩, .slice none 0 0, .string ⟨#[]⟩]) (.struct #[⟨"From", 9, 0, false, "", "", 0⟩, ⟨"To", 23, 1, false, "", "", 16⟩, ⟨"Id", 9, 2, false, "", "", 40⟩]) := ⟨by kernel_rfl, by kernel_rfl⟩
theorem qQa : TyOk prog 37 2 16 (.agg #[.int .i64 0, .int .i64 0]) (.struct #[⟨"Code", 3, 0, false, "", "", 0⟩, ⟨"Index", 3, 1, false, "", "", 8⟩]) := ⟨by kernel_rfl, by kernel_rfl⟩
theorem kIa : TyOk prog 80 2 32 (.agg #[.string ⟨#[]⟩, .string ⟨#[]⟩]) (.struct #[⟨"Name", 9, 0, false, "", "", 0⟩, ⟨"Value", 9, 1, false, "", "", 16⟩]) := ⟨by kernel_rfl, by kernel_rfl⟩
theorem kNa : TyOk prog 30 5 104 (.agg #[.string ⟨#[]⟩, .slice none 0 0, .string ⟨#[]⟩, .slice none 0 0, .slice none 0 0]) (.struct #[⟨"Envelope", 25, 0, false, "", "", 0⟩, ⟨"Message", 28, 3, false, "", "", 56⟩]) := ⟨by kernel_rfl, by kernel_rfl⟩
theorem qAa : TyOk prog 28 2 48 (.agg #[.slice none 0 0, .slice none 0 0]) (.struct #[⟨"Fields", 26, 0, false, "", "", 0⟩, ⟨"Body", 22, 1, false, "", "", 24⟩]) := ⟨by kernel_rfl, by kernel_rfl⟩
theorem vLa : TyOk prog 71 3 24 (.agg #[.int .i64 0, .int .i64 0, .int .i64 0]) (.struct #[⟨"Entry", 3, 0, false, "", "", 0⟩, ⟨"Number", 3, 1, false, "", "", 8⟩, ⟨"Result", 3, 2, false, "", "", 16⟩]) := ⟨by kernel_rfl, by kernel_rfl⟩
theorem QNa : TyOk prog 54 2 32 (.agg #[.slice none 0 0, .int .i64 0]) (.struct #[⟨"Entries", 52, 0, false, "", "", 0⟩, ⟨"Next", 3, 1, false, "", "", 24⟩]) := ⟨by kernel_rfl, by kernel_rfl⟩
theorem zQa : TyOk prog 78 2 24 (.agg #[.string ⟨#[]⟩, .int .i64 0]) (.struct #[⟨"Address", 9, 0, false, "", "", 0⟩, ⟨"Notify", 3, 1, false, "", "", 16⟩]) := ⟨by kernel_rfl, by kernel_rfl⟩
theorem qca : TyOk prog 35 11 192 (.agg #[.int .i64 0, .int .i64 0, .string ⟨#[]⟩, .slice none 0 0, .string ⟨#[]⟩, .slice none 0 0, .slice none 0 0, .int .i64 0, .string ⟨#[]⟩, .slice none 0 0, .slice none 0 0]) (.struct #[⟨"Kind", 3, 0, false, "", "", 0⟩, ⟨"Now", 3, 1, false, "", "", 8⟩, ⟨"Mail", 30, 2, false, "", "", 16⟩, ⟨"Attempt", 33, 7, false, "", "", 120⟩, ⟨"Results", 31, 10, false, "", "", 168⟩]) := ⟨by kernel_rfl, by kernel_rfl⟩
theorem kLa : TyOk prog 100 4 40 (.agg #[.string ⟨#[]⟩, .int .i64 0, .int .i64 0, .bool false]) (.struct #[⟨"Recipient", 78, 0, false, "", "", 0⟩, ⟨"Result", 3, 2, false, "", "", 24⟩, ⟨"Busy", 4, 3, false, "", "", 32⟩]) := ⟨by kernel_rfl, by kernel_rfl⟩
theorem Kca:TyOk prog 4 1 1 (.bool false) .bool:=⟨by kernel_rfl,by kernel_rfl⟩
theorem zZa:TyOk prog 3 1 8 (.int .i64 0) (.int .i64):=⟨by kernel_rfl,by kernel_rfl⟩
theorem ty_int32:TyOk prog 21 1 4 (.int .i32 0) (.int .i32):=⟨by kernel_rfl,by kernel_rfl⟩
theorem qua:TyOk prog 137 1 8 (.map none) (.map 141 4):=⟨by kernel_rfl,by kernel_rfl⟩
theorem vDa:TyOk prog 136 1 8 (.map none) (.map 9 3):=⟨by kernel_rfl,by kernel_rfl⟩
theorem Qsa:TyOk prog 112 1 8 (.pointer none) (.pointer 114):=⟨by kernel_rfl,by kernel_rfl⟩
theorem Qta:TyOk prog 103 1 8 (.pointer none) (.pointer 105):=⟨by kernel_rfl,by kernel_rfl⟩
theorem jCa : TyOk prog 121 2 32 (.agg #[.slice none 0 0, .bool false]) (.struct #[⟨"b", 22, 0, false, "", "posthouse/posthouseref4", 0⟩, ⟨"bad", 4, 1, false, "", "posthouse/posthouseref4", 24⟩]) := ⟨by kernel_rfl, by kernel_rfl⟩
theorem yKa : TyOk prog 141 2 24 (.agg #[.int .i64 0, .string ⟨#[]⟩]) (.struct #[⟨"entry", 3, 0, false, "", "posthouse/queue", 0⟩, ⟨"domain", 9, 1, false, "", "posthouse/queue", 8⟩]) := ⟨by kernel_rfl, by kernel_rfl⟩
theorem zxa:TyOk prog 52 1 24 (.slice none 0 0) (.slice 97):=⟨by kernel_rfl,by kernel_rfl⟩
theorem z7a:TyOk prog 26 1 24 (.slice none 0 0) (.slice 80):=⟨by kernel_rfl,by kernel_rfl⟩
theorem vRa:TyOk prog 55 1 24 (.slice none 0 0) (.slice 71):=⟨by kernel_rfl,by kernel_rfl⟩
theorem zza:TyOk prog 23 1 24 (.slice none 0 0) (.slice 78):=⟨by kernel_rfl,by kernel_rfl⟩
theorem kOa:TyOk prog 45 1 24 (.slice none 0 0) (.slice 35):=⟨by kernel_rfl,by kernel_rfl⟩
theorem zra:TyOk prog 95 1 24 (.slice none 0 0) (.slice 100):=⟨by kernel_rfl,by kernel_rfl⟩
theorem ZEa:TyOk prog 31 1 24 (.slice none 0 0) (.slice 3):=⟨by kernel_rfl,by kernel_rfl⟩
theorem zab:TyOk prog 102 1 24 (.slice none 0 0) (.slice 22):=⟨by kernel_rfl,by kernel_rfl⟩
theorem VUa:TyOk prog 108 1 24 (.slice none 0 0) (.slice 9):=⟨by kernel_rfl,by kernel_rfl⟩
theorem zna:TyOk prog 22 1 24 (.slice none 0 0) (.slice 5):=⟨by kernel_rfl,by kernel_rfl⟩
theorem VVa : TyOk prog 114 2 32 (.agg #[.slice none 0 0, .bool false]) (.struct #[⟨"b", 22, 0, false, "", "posthouse/spool", 0⟩, ⟨"bad", 4, 1, false, "", "posthouse/spool", 24⟩]) := ⟨by kernel_rfl, by kernel_rfl⟩
theorem VWa : TyOk prog 105 1 24 (.agg #[.slice none 0 0]) (.struct #[⟨"out", 22, 0, false, "", "posthouse/spool", 0⟩]) := ⟨by kernel_rfl, by kernel_rfl⟩
theorem z9a:TyOk prog 9 1 16 (.string ⟨#[]⟩) .string:=⟨by kernel_rfl,by kernel_rfl⟩
theorem ty_uint:TyOk prog 189 1 8 (.int .u64 0) (.int .u64):=⟨by kernel_rfl,by kernel_rfl⟩
theorem kca:TyOk prog 82 1 8 (.int .u64 0) (.int .u64):=⟨by kernel_rfl,by kernel_rfl⟩
theorem zAa:TyOk prog 5 1 1 (.int .u8 0) (.int .u8):=⟨by kernel_rfl,by kernel_rfl⟩
def tab : Tab := [(33, ⟨3, 48, (.agg #[.int .i64 0, .string ⟨#[]⟩, .slice none 0 0]), (.struct #[⟨"Entry", 3, 0, false, "", "", 0⟩, ⟨"Domain", 9, 1, false, "", "", 8⟩, ⟨"To", 31, 2, false, "", "", 24⟩]), (some #[(0, 1), (1, 1), (2, 1)])⟩), (97, ⟨10, 160, (.agg #[.int .i64 0, .string ⟨#[]⟩, .slice none 0 0, .string ⟨#[]⟩, .slice none 0 0, .slice none 0 0, .int .i64 0, .int .i64 0, .int .i64 0, .slice none 0 0]), (.struct #[⟨"Id", 3, 0, false, "", "", 0⟩, ⟨"Mail", 30, 1, false, "", "", 8⟩, ⟨"Since", 3, 6, false, "", "", 112⟩, ⟨"Tries", 3, 7, false, "", "", 120⟩, ⟨"Due", 3, 8, false, "", "", 128⟩, ⟨"To", 95, 9, false, "", "", 136⟩]), (some #[(0, 1), (1, 5), (6, 1), (7, 1), (8, 1), (9, 1)])⟩), (25, ⟨3, 56, (.agg #[.string ⟨#[]⟩, .slice none 0 0, .string ⟨#[]⟩]), (.struct #[⟨"From", 9, 0, false, "", "", 0⟩, ⟨"To", 23, 1, false, "", "", 16⟩, ⟨"Id", 9, 2, false, "", "", 40⟩]), (some #[(0, 1), (1, 1), (2, 1)])⟩), (37, ⟨2, 16, (.agg #[.int .i64 0, .int .i64 0]), (.struct #[⟨"Code", 3, 0, false, "", "", 0⟩, ⟨"Index", 3, 1, false, "", "", 8⟩]), (some #[(0, 1), (1, 1)])⟩), (80, ⟨2, 32, (.agg #[.string ⟨#[]⟩, .string ⟨#[]⟩]), (.struct #[⟨"Name", 9, 0, false, "", "", 0⟩, ⟨"Value", 9, 1, false, "", "", 16⟩]), (some #[(0, 1), (1, 1)])⟩), (30, ⟨5, 104, (.agg #[.string ⟨#[]⟩, .slice none 0 0, .string ⟨#[]⟩, .slice none 0 0, .slice none 0 0]), (.struct #[⟨"Envelope", 25, 0, false, "", "", 0⟩, ⟨"Message", 28, 3, false, "", "", 56⟩]), (some #[(0, 3), (3, 2)])⟩), (28, ⟨2, 48, (.agg #[.slice none 0 0, .slice none 0 0]), (.struct #[⟨"Fields", 26, 0, false, "", "", 0⟩, ⟨"Body", 22, 1, false, "", "", 24⟩]), (some #[(0, 1), (1, 1)])⟩), (71, ⟨3, 24, (.agg #[.int .i64 0, .int .i64 0, .int .i64 0]), (.struct #[⟨"Entry", 3, 0, false, "", "", 0⟩, ⟨"Number", 3, 1, false, "", "", 8⟩, ⟨"Result", 3, 2, false, "", "", 16⟩]), (some #[(0, 1), (1, 1), (2, 1)])⟩), (54, ⟨2, 32, (.agg #[.slice none 0 0, .int .i64 0]), (.struct #[⟨"Entries", 52, 0, false, "", "", 0⟩, ⟨"Next", 3, 1, false, "", "", 24⟩]), (some #[(0, 1), (1, 1)])⟩), (78, ⟨2, 24, (.agg #[.string ⟨#[]⟩, .int .i64 0]), (.struct #[⟨"Address", 9, 0, false, "", "", 0⟩, ⟨"Notify", 3, 1, false, "", "", 16⟩]), (some #[(0, 1), (1, 1)])⟩), (35, ⟨11, 192, (.agg #[.int .i64 0, .int .i64 0, .string ⟨#[]⟩, .slice none 0 0, .string ⟨#[]⟩, .slice none 0 0, .slice none 0 0, .int .i64 0, .string ⟨#[]⟩, .slice none 0 0, .slice none 0 0]), (.struct #[⟨"Kind", 3, 0, false, "", "", 0⟩, ⟨"Now", 3, 1, false, "", "", 8⟩, ⟨"Mail", 30, 2, false, "", "", 16⟩, ⟨"Attempt", 33, 7, false, "", "", 120⟩, ⟨"Results", 31, 10, false, "", "", 168⟩]), (some #[(0, 1), (1, 1), (2, 5), (7, 3), (10, 1)])⟩), (100, ⟨4, 40, (.agg #[.string ⟨#[]⟩, .int .i64 0, .int .i64 0, .bool false]), (.struct #[⟨"Recipient", 78, 0, false, "", "", 0⟩, ⟨"Result", 3, 2, false, "", "", 24⟩, ⟨"Busy", 4, 3, false, "", "", 32⟩]), (some #[(0, 2), (2, 1), (3, 1)])⟩), (4, ⟨1, 1, (.bool false), .bool, none⟩), (3, ⟨1, 8, (.int .i64 0), (.int .i64), none⟩), (21, ⟨1, 4, (.int .i32 0), (.int .i32), none⟩), (137, ⟨1, 8, (.map none), (.map 141 4), none⟩), (136, ⟨1, 8, (.map none), (.map 9 3), none⟩), (112, ⟨1, 8, (.pointer none), (.pointer 114), none⟩), (103, ⟨1, 8, (.pointer none), (.pointer 105), none⟩), (121, ⟨2, 32, (.agg #[.slice none 0 0, .bool false]), (.struct #[⟨"b", 22, 0, false, "", "posthouse/posthouseref4", 0⟩, ⟨"bad", 4, 1, false, "", "posthouse/posthouseref4", 24⟩]), (some #[(0, 1), (1, 1)])⟩), (141, ⟨2, 24, (.agg #[.int .i64 0, .string ⟨#[]⟩]), (.struct #[⟨"entry", 3, 0, false, "", "posthouse/queue", 0⟩, ⟨"domain", 9, 1, false, "", "posthouse/queue", 8⟩]), (some #[(0, 1), (1, 1)])⟩), (52, ⟨1, 24, (.slice none 0 0), (.slice 97), none⟩), (26, ⟨1, 24, (.slice none 0 0), (.slice 80), none⟩), (55, ⟨1, 24, (.slice none 0 0), (.slice 71), none⟩), (23, ⟨1, 24, (.slice none 0 0), (.slice 78), none⟩), (45, ⟨1, 24, (.slice none 0 0), (.slice 35), none⟩), (95, ⟨1, 24, (.slice none 0 0), (.slice 100), none⟩), (31, ⟨1, 24, (.slice none 0 0), (.slice 3), none⟩), (102, ⟨1, 24, (.slice none 0 0), (.slice 22), none⟩), (108, ⟨1, 24, (.slice none 0 0), (.slice 9), none⟩), (22, ⟨1, 24, (.slice none 0 0), (.slice 5), none⟩), (114, ⟨2, 32, (.agg #[.slice none 0 0, .bool false]), (.struct #[⟨"b", 22, 0, false, "", "posthouse/spool", 0⟩, ⟨"bad", 4, 1, false, "", "posthouse/spool", 24⟩]), (some #[(0, 1), (1, 1)])⟩), (105, ⟨1, 24, (.agg #[.slice none 0 0]), (.struct #[⟨"out", 22, 0, false, "", "posthouse/spool", 0⟩]), (some #[(0, 1)])⟩), (9, ⟨1, 16, (.string ⟨#[]⟩), .string, none⟩), (189, ⟨1, 8, (.int .u64 0), (.int .u64), none⟩), (82, ⟨1, 8, (.int .u64 0), (.int .u64), none⟩), (5, ⟨1, 1, (.int .u8 0), (.int .u8), none⟩)]
theorem tk:kVa prog tab:=(k8a ZUa Wya (k8a zqa J5a (k8a Zba VRa (k8a qQa J6a (k8a kIa J7a (k8a kNa z9b (k8a qAa Wza (k8a vLa WAa (k8a QNa J8a (k8a zQa Q0a (k8a qca Y1a (k8a kLa WBa (k3a Kca (k3a zZa (k3a ty_int32 (k3a qua (k3a vDa (k3a Qsa (k3a Qta (k8a jCa jBa (k8a yKa J9a (k3a zxa (k3a z7a (k3a vRa (k3a zza (k3a kOa (k3a zra (k3a ZEa (k3a zab (k3a VUa (k3a zna (k8a VVa VSa (k8a VWa VTa (k3a z9a (k3a ty_uint (k3a kca (k3a zAa tab_nil)))))))))))))))))))))))))))))))))))))
def zsa.ok(x:zsa):Prop:=ok64 x.Code/\ok64 x.Index
def zsa.bk(x:zsa):Nat:=(fun _=>1) x.Code+(fun _=>1) x.Index+1
instance:Inhabited zsa:=⟨⟨default,default⟩⟩
def yJa.ok(x:yJa):Prop:=Wwa x.Address/\(okL Wwa) x.To
def yJa.bk(x:yJa):Nat:=(fun s=>s.length+1) x.Address+(bkL (fun s=>s.length+1)) x.To+1
instance:Inhabited yJa:=⟨⟨default,default⟩⟩
def zba.ok(x:zba):Prop:=Wwa x.Address/\ok64 x.Notify
def zba.bk(x:zba):Nat:=(fun s=>s.length+1) x.Address+(fun _=>1) x.Notify+1
instance:Inhabited zba:=⟨⟨default,default⟩⟩
def zOa.ok(x:zOa):Prop:=Wwa x.From/\(okL zba.ok) x.To/\Wwa x.Id
def zOa.bk(x:zOa):Nat:=(fun s=>s.length+1) x.From+(bkL zba.bk) x.To+(fun s=>s.length+1) x.Id+1
instance:Inhabited zOa:=⟨⟨default,default,default⟩⟩
def zka.ok(x:zka):Prop:=Wwa x.Name/\Wwa x.Value
def zka.bk(x:zka):Nat:=(fun s=>s.length+1) x.Name+(fun s=>s.length+1) x.Value+1
instance:Inhabited zka:=⟨⟨default,default⟩⟩
def zIa.ok(x:zIa):Prop:=(okL zka.ok) x.Fields/\(okL (fun _=>True)) x.Body
def zIa.bk(x:zIa):Nat:=(bkL zka.bk) x.Fields+(bkL (fun _=>1)) x.Body+1
instance:Inhabited zIa:=⟨⟨default,default⟩⟩
def kha.ok(x:kha):Prop:=zOa.ok x.Envelope/\zIa.ok x.Message
def kha.bk(x:kha):Nat:=zOa.bk x.Envelope+zIa.bk x.Message+1
instance:Inhabited kha:=⟨⟨default,default⟩⟩
def zga.ok(x:zga):Prop:=zba.ok x.Recipient/\ok64 x.Result/\(fun _=>True) x.Busy
def zga.bk(x:zga):Nat:=zba.bk x.Recipient+(fun _=>1) x.Result+(fun _=>1) x.Busy+1
instance:Inhabited zga:=⟨⟨default,default,default⟩⟩
def zca.ok(x:zca):Prop:=ok64 x.Id/\kha.ok x.Mail/\ok64 x.Since/\ok64 x.Tries/\ok64 x.Due/\(okL zga.ok) x.To
def zca.bk(x:zca):Nat:=(fun _=>1) x.Id+kha.bk x.Mail+(fun _=>1) x.Since+(fun _=>1) x.Tries+(fun _=>1) x.Due+(bkL zga.bk) x.To+1
instance:Inhabited zca:=⟨⟨default,default,default,default,default,default⟩⟩
def zva.ok(x:zva):Prop:=(okL zca.ok) x.Entries/\ok64 x.Next
def zva.bk(x:zva):Nat:=(bkL zca.bk) x.Entries+(fun _=>1) x.Next+1
instance:Inhabited zva:=⟨⟨default,default⟩⟩
def zwa.ok(x:zwa):Prop:=ok64 x.Entry/\Wwa x.Domain/\(okL ok64) x.To
def zwa.bk(x:zwa):Nat:=(fun _=>1) x.Entry+(fun s=>s.length+1) x.Domain+(bkL (fun _=>1)) x.To+1
instance:Inhabited zwa:=⟨⟨default,default,default⟩⟩
def zla.ok(x:zla):Prop:=ok64 x.Entry/\ok64 x.Number/\ok64 x.Result
def zla.bk(x:zla):Nat:=(fun _=>1) x.Entry+(fun _=>1) x.Number+(fun _=>1) x.Result+1
instance:Inhabited zla:=⟨⟨default,default,default⟩⟩
def zfa.ok(x:zfa):Prop:=ok64 x.Kind/\ok64 x.Now/\kha.ok x.Mail/\zwa.ok x.Attempt/\(okL ok64) x.Results
def zfa.bk(x:zfa):Nat:=(fun _=>1) x.Kind+(fun _=>1) x.Now+kha.bk x.Mail+zwa.bk x.Attempt+(bkL (fun _=>1)) x.Results+1
instance:Inhabited zfa:=⟨⟨default,default,default,default,default⟩⟩
def zma.ok(x:zma):Prop:=(okL (fun _=>True)) x.out
def zma.bk(x:zma):Nat:=(bkL (fun _=>1)) x.out+1
instance:Inhabited zma:=⟨⟨default⟩⟩
def zha.ok(x:zha):Prop:=(okL (fun _=>True)) x.b/\(fun _=>True) x.bad
def zha.bk(x:zha):Nat:=(bkL (fun _=>1)) x.b+(fun _=>1) x.bad+1
instance:Inhabited zha:=⟨⟨default,default⟩⟩
def kda.ok(x:kda):Prop:=(okL (fun _=>True)) x.b/\(fun _=>True) x.bad
def kda.bk(x:kda):Nat:=(bkL (fun _=>1)) x.b+(fun _=>1) x.bad+1
instance:Inhabited kda:=⟨⟨default,default⟩⟩
theorem op_uint8:yTa prog 5 1 cU (fun _=>True) (fun _=>1):=opens_U zAa.u (by kernel_rfl)
theorem W6a:yTa prog 22 1 (cL cU) (okL (fun _=>True)) (bkL (fun _=>1)):=VHa op_uint8 rfl zna.u (by kernel_rfl)
theorem Zca:yTa prog 3 1 cI ok64 (fun _=>1):=opens_I zZa.u (by kernel_rfl)
theorem q6a:yTa prog 9 1 cS Wwa (fun s=>s.length+1):=opens_S z9a.u (by kernel_rfl)
theorem Q1a:yTa prog 78 2 zba.pc zba.ok zba.bk:=⟨by kernel_rfl,fun _=>rfl,fun {H enc W fuel cs d} h=>by
 obtain ⟨xs,n,_,rfl,hl,hlen,hf⟩:=DataW.trod_struct zQa.u h;have hl2:cs.length=2:=hl.trans (by kernel_rfl)
 match xs,hlen with
 | [y0,y1],_=>
  obtain ⟨x0,r0,o0,b0⟩:=q6a.op (show _=some y0 from hf 0 _ rfl)
  replace r0:RelC W _ (List.take (prog.cellsOf 9) (List.drop 0 cs)):=r0
  rw[q6a.cells]at r0;obtain ⟨x1,r1,o1,b1⟩:=Zca.op (show _=some y1 from hf 1 _ rfl)
  replace r1:RelC W _ (List.take (prog.cellsOf 3) (List.drop 1 cs)):=r1
  rw[Zca.cells]at r1;exact ⟨⟨x0,x1⟩,(qba (off:=0) rfl r0 (qba (off:=1) rfl r1 (jxa hl2))),⟨o0,o1⟩,by simp only[List.map,Rows.uptoBulk,Rows.uptoBulkAll,zba.bk];omega⟩⟩
theorem yLa:yTa prog 23 1 (cL zba.pc) (okL zba.ok) (bkL zba.bk):=VHa Q1a rfl zza.u (by kernel_rfl)
theorem Zda:yTa prog 25 3 zOa.pc zOa.ok zOa.bk:=⟨by kernel_rfl,fun _=>rfl,fun {H enc W fuel cs d} h=>by
 obtain ⟨xs,n,_,rfl,hl,hlen,hf⟩:=DataW.trod_struct Zba.u h;have hl2:cs.length=3:=hl.trans (by kernel_rfl)
 match xs,hlen with
 | [y0,y1,y2],_=>
  obtain ⟨x0,r0,o0,b0⟩:=q6a.op (show _=some y0 from hf 0 _ rfl)
  replace r0:RelC W _ (List.take (prog.cellsOf 9) (List.drop 0 cs)):=r0
  rw[q6a.cells]at r0;obtain ⟨x1,r1,o1,b1⟩:=yLa.op (show _=some y1 from hf 1 _ rfl)
  replace r1:RelC W _ (List.take (prog.cellsOf 23) (List.drop 1 cs)):=r1
  rw[yLa.cells]at r1;obtain ⟨x2,r2,o2,b2⟩:=q6a.op (show _=some y2 from hf 2 _ rfl)
  replace r2:RelC W _ (List.take (prog.cellsOf 9) (List.drop 2 cs)):=r2
  rw[q6a.cells]at r2;exact ⟨⟨x0,x1,x2⟩,(qba (off:=0) rfl r0 (qba (off:=1) rfl r1 (qba (off:=2) rfl r2 (jxa hl2)))),⟨o0,o1,o2⟩,by simp only[List.map,Rows.uptoBulk,Rows.uptoBulkAll,zOa.bk];omega⟩⟩
theorem zbb:yTa prog 80 2 zka.pc zka.ok zka.bk:=⟨by kernel_rfl,fun _=>rfl,fun {H enc W fuel cs d} h=>by
 obtain ⟨xs,n,_,rfl,hl,hlen,hf⟩:=DataW.trod_struct kIa.u h;have hl2:cs.length=2:=hl.trans (by kernel_rfl)
 match xs,hlen with
 | [y0,y1],_=>
  obtain ⟨x0,r0,o0,b0⟩:=q6a.op (show _=some y0 from hf 0 _ rfl)
  replace r0:RelC W _ (List.take (prog.cellsOf 9) (List.drop 0 cs)):=r0
  rw[q6a.cells]at r0;obtain ⟨x1,r1,o1,b1⟩:=q6a.op (show _=some y1 from hf 1 _ rfl)
  replace r1:RelC W _ (List.take (prog.cellsOf 9) (List.drop 1 cs)):=r1
  rw[q6a.cells]at r1;exact ⟨⟨x0,x1⟩,(qba (off:=0) rfl r0 (qba (off:=1) rfl r1 (jxa hl2))),⟨o0,o1⟩,by simp only[List.map,Rows.uptoBulk,Rows.uptoBulkAll,zka.bk];omega⟩⟩
theorem ZVa:yTa prog 26 1 (cL zka.pc) (okL zka.ok) (bkL zka.bk):=VHa zbb rfl z7a.u (by kernel_rfl)
theorem ZWa:yTa prog 28 2 zIa.pc zIa.ok zIa.bk:=⟨by kernel_rfl,fun _=>rfl,fun {H enc W fuel cs d} h=>by
 obtain ⟨xs,n,_,rfl,hl,hlen,hf⟩:=DataW.trod_struct qAa.u h;have hl2:cs.length=2:=hl.trans (by kernel_rfl)
 match xs,hlen with
 | [y0,y1],_=>
  obtain ⟨x0,r0,o0,b0⟩:=ZVa.op (show _=some y0 from hf 0 _ rfl)
  replace r0:RelC W _ (List.take (prog.cellsOf 26) (List.drop 0 cs)):=r0
  rw[ZVa.cells]at r0;obtain ⟨x1,r1,o1,b1⟩:=W6a.op (show _=some y1 from hf 1 _ rfl)
  replace r1:RelC W _ (List.take (prog.cellsOf 22) (List.drop 1 cs)):=r1
  rw[W6a.cells]at r1;exact ⟨⟨x0,x1⟩,(qba (off:=0) rfl r0 (qba (off:=1) rfl r1 (jxa hl2))),⟨o0,o1⟩,by simp only[List.map,Rows.uptoBulk,Rows.uptoBulkAll,zIa.bk];omega⟩⟩
theorem VXa:yTa prog 30 5 kha.pc kha.ok kha.bk:=⟨by kernel_rfl,fun _=>rfl,fun {H enc W fuel cs d} h=>by
 obtain ⟨xs,n,_,rfl,hl,hlen,hf⟩:=DataW.trod_struct kNa.u h;have hl2:cs.length=5:=hl.trans (by kernel_rfl)
 match xs,hlen with
 | [y0,y1],_=>
  obtain ⟨x0,r0,o0,b0⟩:=Zda.op (show _=some y0 from hf 0 _ rfl)
  replace r0:RelC W _ (List.take (prog.cellsOf 25) (List.drop 0 cs)):=r0
  rw[Zda.cells]at r0;obtain ⟨x1,r1,o1,b1⟩:=ZWa.op (show _=some y1 from hf 1 _ rfl)
  replace r1:RelC W _ (List.take (prog.cellsOf 28) (List.drop 3 cs)):=r1
  rw[ZWa.cells]at r1;exact ⟨⟨x0,x1⟩,(qba (off:=0) rfl r0 (qba (off:=3) rfl r1 (jxa hl2))),⟨o0,o1⟩,by simp only[List.map,Rows.uptoBulk,Rows.uptoBulkAll,kha.bk];omega⟩⟩
theorem Via:yTa prog 31 1 (cL cI) (okL ok64) (bkL (fun _=>1)):=VHa Zca rfl ZEa.u (by kernel_rfl)
theorem ZXa:yTa prog 33 3 zwa.pc zwa.ok zwa.bk:=⟨by kernel_rfl,fun _=>rfl,fun {H enc W fuel cs d} h=>by
 obtain ⟨xs,n,_,rfl,hl,hlen,hf⟩:=DataW.trod_struct ZUa.u h;have hl2:cs.length=3:=hl.trans (by kernel_rfl)
 match xs,hlen with
 | [y0,y1,y2],_=>
  obtain ⟨x0,r0,o0,b0⟩:=Zca.op (show _=some y0 from hf 0 _ rfl)
  replace r0:RelC W _ (List.take (prog.cellsOf 3) (List.drop 0 cs)):=r0
  rw[Zca.cells]at r0;obtain ⟨x1,r1,o1,b1⟩:=q6a.op (show _=some y1 from hf 1 _ rfl)
  replace r1:RelC W _ (List.take (prog.cellsOf 9) (List.drop 1 cs)):=r1
  rw[q6a.cells]at r1;obtain ⟨x2,r2,o2,b2⟩:=Via.op (show _=some y2 from hf 2 _ rfl)
  replace r2:RelC W _ (List.take (prog.cellsOf 31) (List.drop 2 cs)):=r2
  rw[Via.cells]at r2;exact ⟨⟨x0,x1,x2⟩,(qba (off:=0) rfl r0 (qba (off:=1) rfl r1 (qba (off:=2) rfl r2 (jxa hl2)))),⟨o0,o1,o2⟩,by simp only[List.map,Rows.uptoBulk,Rows.uptoBulkAll,zwa.bk];omega⟩⟩
theorem Y2a:yTa prog 35 11 zfa.pc zfa.ok zfa.bk:=⟨by kernel_rfl,fun _=>rfl,fun {H enc W fuel cs d} h=>by
 obtain ⟨xs,n,_,rfl,hl,hlen,hf⟩:=DataW.trod_struct qca.u h;have hl2:cs.length=11:=hl.trans (by kernel_rfl)
 match xs,hlen with
 | [y0,y1,y2,y3,y4],_=>
  obtain ⟨x0,r0,o0,b0⟩:=Zca.op (show _=some y0 from hf 0 _ rfl)
  replace r0:RelC W _ (List.take (prog.cellsOf 3) (List.drop 0 cs)):=r0
  rw[Zca.cells]at r0;obtain ⟨x1,r1,o1,b1⟩:=Zca.op (show _=some y1 from hf 1 _ rfl)
  replace r1:RelC W _ (List.take (prog.cellsOf 3) (List.drop 1 cs)):=r1
  rw[Zca.cells]at r1;obtain ⟨x2,r2,o2,b2⟩:=VXa.op (show _=some y2 from hf 2 _ rfl)
  replace r2:RelC W _ (List.take (prog.cellsOf 30) (List.drop 2 cs)):=r2
  rw[VXa.cells]at r2;obtain ⟨x3,r3,o3,b3⟩:=ZXa.op (show _=some y3 from hf 3 _ rfl)
  replace r3:RelC W _ (List.take (prog.cellsOf 33) (List.drop 7 cs)):=r3
  rw[ZXa.cells]at r3;obtain ⟨x4,r4,o4,b4⟩:=Via.op (show _=some y4 from hf 4 _ rfl)
  replace r4:RelC W _ (List.take (prog.cellsOf 31) (List.drop 10 cs)):=r4
  rw[Via.cells]at r4;exact ⟨⟨x0,x1,x2,x3,x4⟩,(qba (off:=0) rfl r0 (qba (off:=1) rfl r1 (qba (off:=2) rfl r2 (qba (off:=7) rfl r3 (qba (off:=10) rfl r4 (jxa hl2)))))),⟨o0,o1,o2,o3,o4⟩,by simp only[List.map,Rows.uptoBulk,Rows.uptoBulkAll,zfa.bk];omega⟩⟩
theorem VYa:yTa prog 45 1 (cL zfa.pc) (okL zfa.ok) (bkL zfa.bk):=VHa Y2a rfl kOa.u (by kernel_rfl)
def R_In(a0:Int)(a1:Int)(a2:Int):Option Bool:=
 ((bif decide (a1<=a0) then some (decide (a0<=a2)) else some false):Option Bool).bind fun (j1:Bool)=>some j1
def R_At(a0:Int)(a1:Int):Option zsa:=
 some ((zsa.mk a0 a1))
def zoa(a0:Int)(a1:Int):Option zsa:=
 some ((zsa.mk a0 a1))
def kma:Option zsa:=
 some ((zsa.mk 0 0))
def z0a(a0:zsa):Option Bool:=
 some ((a0.Code !=0))
def qLa(a0:Int):Option Bool:=
 ((bif decide ((-68719476736)<=a0) then some (decide (a0<=68719476736)) else some false):Option Bool).bind fun (j1:Bool)=>some j1
def v1a(a0:UInt8):Option Bool:=
 ((bif decide (97<=(a0.toNat:Int)) then (bif decide ((a0.toNat:Int)<=122) then some true else (bif decide (65<=(a0.toNat:Int)) then (bif decide ((a0.toNat:Int)<=90) then some true else (bif decide (48<=(a0.toNat:Int)) then some (decide ((a0.toNat:Int)<=57)) else some false)) else (bif decide (48<=(a0.toNat:Int)) then some (decide ((a0.toNat:Int)<=57)) else some false))) else (bif decide (65<=(a0.toNat:Int)) then (bif decide ((a0.toNat:Int)<=90) then some true else (bif decide (48<=(a0.toNat:Int)) then some (decide ((a0.toNat:Int)<=57)) else some false)) else (bif decide (48<=(a0.toNat:Int)) then some (decide ((a0.toNat:Int)<=57)) else some false))):Option Bool).bind fun (j1:Bool)=>some j1
def qBa(a0:List Int)(s1:Int):Option (Step Int (Unit ⊕ Bool)):=
 (bif decide (s1 < (a0.length:Int)) then (idx a0 s1).bind fun v7=>(qLa v7).bind fun v9=>(bif (!v9) then some (.out (.inr false)) else some (.cont (w64 (s1+1)))) else some (.out (.inl (()))))
noncomputable def ypa(a0:List Int):Option Bool:=
 (iter (qBa a0) 0).bind fun o=>match o with | .inl b2=>some true | .inr b3=>some b3
def wAa(a0:List UInt8)(a1:List UInt8):Option Bool:=
 some ((a0==a1))
def qka(a0:List UInt8)(a1:List UInt8):Option Bool:=
 ((bif decide ((a1.length:Int)<=(a0.length:Int)) then (cut a0 0 ((a1.length:Int))).bind fun v3=>(wAa v3 a1).bind fun v5=>some v5 else some false):Option Bool).bind fun (j1:Bool)=>some j1
def kia(s:Str)(c:UInt8):Option Int:=some (Lib.indexByte s c)
def k6a(s t:Str):Option Bool:=if s.length < 4294967281 then some (Lib.contains s t) else none
def vXa(s t:Str):Option (Str × Str × Bool):=if s.length < 4294967281 then some (Lib.cut s t) else none
def kWa(a0:Int):Option Bool:=
 ((bif decide (0<=a0) then some (decide (a0 < 55296)) else some false):Option Bool).bind fun (j1:Bool)=>(bif j1 then some true else ((bif decide (57343 < a0) then some (decide (a0<=1114111)) else some false):Option Bool).bind fun (j4:Bool)=>(bif j4 then some true else some false))
def qGa(a0:Str)(s7:Nat):Option (Step Nat (Unit ⊕ Int)):=
 (bif decide (s7 < a0.length) then (bif ((ZTa a0 s7)==65533) then some (.out (.inr (((s7:Nat):Int)))) else some (.cont (s7+y1a a0 s7))) else some (.out (.inl (()))))
def w3a(a0:Str)(a1:Int)(j23:Int × Int)(s36:Int):Option (Step Int Unit):=
 (bif decide (s36 < (((wJa a1)).length:Int)) then (idx a0 ((w64 (j23.2 - s36)))).bind fun v40=>(idx ((wJa a1)) ((w64 (j23.1 - s36)))).bind fun v42=>(bif ((v40.toNat:Int) !=(v42.toNat:Int)) then none else some (.cont (w64 (s36+1)))) else some (.out (())))
noncomputable def qHa(a0:Str)(a1:Int)(j23:Int × Int):Option (Step Int (Unit ⊕ Int)):=
 (iter (w3a a0 a1 j23) 1).bind fun b37=>some (.out (.inr ((w64 (j23.2 - j23.1)))))
noncomputable def qIa(a0:Str)(a1:Int)(s17:Int):Option (Step Int (Unit ⊕ Int)):=
 (bif decide (s17 < (a0.length:Int)) then (idx a0 s17).bind fun v24=>(idx ((wJa a1)) ((w64 ((((wJa a1)).length:Int) - 1)))).bind fun v26=>(bif ((v24.toNat:Int) !=(v26.toNat:Int)) then (cut a0 ((w64 (s17+1))) ((a0.length:Int))).bind fun v29=>(idx ((wJa a1)) ((w64 ((((wJa a1)).length:Int) - 1)))).bind fun v31=>(kia v29 v31).bind fun v33=>(bif decide (v33 < 0) then some (.out (.inr ((-1)))) else (qHa a0 a1 ((w64 ((((wJa a1)).length:Int) - 1)),(w64 (s17+(w64 (v33+1))))))) else (qHa a0 a1 ((w64 ((((wJa a1)).length:Int) - 1)),s17))) else some (.out (.inl (()))))
noncomputable def kJa(a0:Str)(a1:Int):Option Int:=
 ((bif decide (0<=a1) then some (decide (a1 < 128)) else some false):Option Bool).bind fun (j1:Bool)=>(bif j1 then (kia a0 ((toU8 a1))).bind fun v4=>some v4 else (bif (a1==65533) then (iter (qGa a0) 0).bind (Sum.elim (fun b8=>some ((-1))) (fun b9=>some b9)) else (kWa a1).bind fun v14=>(bif (!v14) then some ((-1)) else (iter (qIa a0 a1) ((w64 ((((wJa a1)).length:Int) - 1)))).bind (Sum.elim (fun b18=>some ((-1))) (fun b19=>some b19)))))
def z8a(a0:Int):Option Bool:=
 some (decide (8 < a0))
noncomputable def qJa(a0:Str)(a1:Str)(s12:Nat):Option (Step Nat (Unit ⊕ Int)):=
 (bif decide (s12 < a0.length) then (kJa a1 ((ZTa a0 s12))).bind fun v18=>(bif decide (0<=v18) then some (.out (.inr (((s12:Nat):Int)))) else some (.cont (s12+y1a a0 s12))) else some (.out (.inl (()))))
noncomputable def vEa(a0:Str)(a1:Str):Option Int:=
 (bif (a1==([]:Str)) then some ((-1)) else (bif ((a1.length:Int)==1) then (idx a1 0).bind fun v3=>((bif decide (128<=(v3.toNat:Int)) then some 65533 else some ((v3.toNat:Int))):Option Int).bind fun (j5:Int)=>(kJa a0 j5).bind fun v7=>some v7 else (z8a ((a0.length:Int))).bind fun v9=>(bif v9 then none else (iter (qJa a0 a1) 0).bind (Sum.elim (fun b13=>some ((-1))) (fun b14=>some b14)))))
def W7a(t:Str):Bool:=t.all fun c=>decide (c.toNat < 128)
def qpa(s t:Str):Option Int:=if s.length < 4294967281/\t.length < 4294967281/\2<=t.length/\W7a t=true then some (Lib.indexAny s t) else none
def kwa(a0:Str)(a1:Str):Option Bool:=
 ((bif decide ((a1.length:Int)<=(a0.length:Int)) then (cut a0 0 ((a1.length:Int))).bind fun v3=>some ((v3==a1)) else some false):Option Bool).bind fun (j1:Bool)=>some j1
def k0a(a0:Str)(a1:Str):Option Bool:=
 (kwa a0 a1).bind fun v1=>some v1
def kxa(a0:Str)(a1:Str):Option Bool:=
 ((bif decide ((a1.length:Int)<=(a0.length:Int)) then (cut a0 ((w64 ((a0.length:Int) - (a1.length:Int)))) ((a0.length:Int))).bind fun v3=>some ((v3==a1)) else some false):Option Bool).bind fun (j1:Bool)=>some j1
def k1a(a0:Str)(a1:Str):Option Bool:=
 (kxa a0 a1).bind fun v1=>some v1
def qva(a0:Str)(s5:Int):Option (Step Int (Unit ⊕ Unit)):=
 (bif decide (s5 < (a0.length:Int)) then (idx a0 s5).bind fun v11=>((bif decide (97<=(v11.toNat:Int)) then (bif decide ((v11.toNat:Int)<=122) then some true else (bif decide (48<=(v11.toNat:Int)) then (bif decide ((v11.toNat:Int)<=57) then some true else (bif ((v11.toNat:Int)==45) then some true else some (((v11.toNat:Int)==46)))) else (bif ((v11.toNat:Int)==45) then some true else some (((v11.toNat:Int)==46))))) else (bif decide (48<=(v11.toNat:Int)) then (bif decide ((v11.toNat:Int)<=57) then some true else (bif ((v11.toNat:Int)==45) then some true else some (((v11.toNat:Int)==46)))) else (bif ((v11.toNat:Int)==45) then some true else some (((v11.toNat:Int)==46))))):Option Bool).bind fun (j13:Bool)=>(bif (!j13) then some (.out (.inr (()))) else some (.cont (w64 (s5+1)))) else some (.out (.inl (()))))
noncomputable def qMa(a0:Str):Option Bool:=
 ((bif (a0 !=([]:Str)) then (bif decide ((a0.length:Int)<=60) then ((iter (qva a0) 0).bind (Sum.elim (fun b6=>some true) (fun b7=>some false)):Option Bool).bind fun (j4:Bool)=>(bif j4 then (k0a a0 (([46]:Str))).bind fun v26=>(bif (!v26) then (k1a a0 (([46]:Str))).bind fun v29=>(bif (!v29) then (k6a a0 (([46,46]:Str))).bind fun v32=>some ((!v32)) else some false) else some false) else some false) else some false) else some false):Option Bool).bind fun (j1:Bool)=>some j1
def qNa(v1:Str × Str × Bool)(s8:Int):Option (Step Int (Unit ⊕ Unit)):=
 (bif decide (s8 < (v1.1.length:Int)) then (idx v1.1 s8).bind fun v14=>((v1a v14).bind fun v17=>(bif v17 then some true else (kia (([45,95,46,43,61]:Str)) v14).bind fun v20=>some (decide (0<=v20))):Option Bool).bind fun (j16:Bool)=>(bif (!j16) then some (.out (.inr (()))) else some (.cont (w64 (s8+1)))) else some (.out (.inl (()))))
noncomputable def vca(a0:Str):Option (Str × Str × Bool):=
 (vXa a0 (([64]:Str))).bind fun v1=>((bif v1.2.2 then (bif (v1.1 !=([]:Str)) then (bif decide ((v1.1.length:Int)<=60) then ((iter (qNa v1) 0).bind (Sum.elim (fun b9=>some true) (fun b10=>some false)):Option Bool).bind fun (j7:Bool)=>(bif j7 then (qMa v1.2.1).bind fun v24=>some v24 else some false) else some false) else some false) else some false):Option Bool).bind fun (j3:Bool)=>some ((v1.1,v1.2.1,j3))
noncomputable def qqa(a0:Str):Option Bool:=
 (vca a0).bind fun v1=>some v1.2.2
def wca(a0:Str)(s5:Int):Option (Step Int (Unit ⊕ Unit)):=
 (bif decide (s5 < (a0.length:Int)) then (idx a0 s5).bind fun v11=>((v1a v11).bind fun v14=>(bif v14 then some true else (bif ((v11.toNat:Int)==45) then some true else (bif ((v11.toNat:Int)==95) then some true else some (((v11.toNat:Int)==46))))):Option Bool).bind fun (j13:Bool)=>(bif (!j13) then some (.out (.inr (()))) else some (.cont (w64 (s5+1)))) else some (.out (.inl (()))))
noncomputable def y3a(a0:Str):Option Bool:=
 ((bif (a0 !=([]:Str)) then (bif decide ((a0.length:Int)<=60) then ((iter (wca a0) 0).bind (Sum.elim (fun b6=>some true) (fun b7=>some false)):Option Bool).bind fun (j4:Bool)=>some j4 else some false) else some false):Option Bool).bind fun (j1:Bool)=>some j1
def vqa(a0:Int):Option Bool:=
 ((bif decide (0<=a0) then some (decide (a0<=7)) else some false):Option Bool).bind fun (j1:Bool)=>some j1
def kXa(v7:zba)(v19:List zba)(s22:Int):Option (Step Int (Unit ⊕ Int)):=
 (bif decide (s22 < (v19.length:Int)) then (idx v19 s22).bind fun v28=>(bif (v28.Address==v7.Address) then some (.out (.inr s22)) else some (.cont (w64 (s22+1)))) else some (.out (.inl (()))))
noncomputable def qoa(a0:List zba)(s1:Int):Option (Step Int (Unit ⊕ zsa)):=
 (bif decide (s1 < (a0.length:Int)) then (idx a0 s1).bind fun v7=>(qqa v7.Address).bind fun v9=>(bif (!v9) then (zoa 10 s1).bind fun v12=>some (.out (.inr v12)) else (vqa v7.Notify).bind fun v14=>(bif (!v14) then (zoa 3 s1).bind fun v17=>some (.out (.inr v17)) else (cut a0 0 s1).bind fun v19=>((iter (kXa v7 v19) 0).bind (Sum.elim (fun b23=>some ((-1))) (fun b24=>some b24)):Option Int).bind fun (j21:Int)=>(bif decide (0<=j21) then (zoa 7 s1).bind fun v32=>some (.out (.inr v32)) else some (.cont (w64 (s1+1)))))) else some (.out (.inl (()))))
noncomputable def qla(a0:List zba):Option zsa:=
 (iter (qoa a0) 0).bind (Sum.elim (fun b2=>(kma).bind fun v34=>some v34) (fun b3=>some b3))
noncomputable def qOa(a0:zOa):Option zsa:=
 ((bif (a0.From !=([]:Str)) then (qqa a0.From).bind fun v3=>some ((!v3)) else some false):Option Bool).bind fun (j1:Bool)=>(bif j1 then (zoa 10 ((-10))).bind fun v6=>some v6 else ((bif decide ((a0.To.length:Int) < 1) then some true else some (decide (60 < (a0.To.length:Int)))):Option Bool).bind fun (j8:Bool)=>(bif j8 then (zoa 2 ((-11))).bind fun v11=>some v11 else ((bif (a0.Id !=([]:Str)) then (y3a a0.Id).bind fun v15=>some ((!v15)) else some false):Option Bool).bind fun (j13:Bool)=>(bif j13 then (zoa 10 ((-12))).bind fun v18=>some v18 else (qla a0.To).bind fun v20=>some v20)))
def kHa(a0:Str)(a1:Str):Option Bool:=
 (qpa a0 a1).bind fun v1=>some (decide (0<=v1))
def wOa(a0:Str)(s5:Int):Option (Step Int (Unit ⊕ Unit)):=
 (bif decide (s5 < (a0.length:Int)) then (idx a0 s5).bind fun v11=>((bif decide (33<=(v11.toNat:Int)) then (bif decide ((v11.toNat:Int)<=126) then some (((v11.toNat:Int) !=58)) else some false) else some false):Option Bool).bind fun (j13:Bool)=>(bif (!j13) then some (.out (.inr (()))) else some (.cont (w64 (s5+1)))) else some (.out (.inl (()))))
noncomputable def Zea(a0:Str):Option Bool:=
 ((bif (a0 !=([]:Str)) then (bif decide ((a0.length:Int)<=60) then ((iter (wOa a0) 0).bind (Sum.elim (fun b6=>some true) (fun b7=>some false)):Option Bool).bind fun (j4:Bool)=>some j4 else some false) else some false):Option Bool).bind fun (j1:Bool)=>some j1
def Zfa(a0:Str):Option Bool:=
 (kHa a0 (([13,10,0]:Str))).bind fun v1=>some v1
def vra(a0:UInt8):Option Bool:=
 ((bif ((a0.toNat:Int)==32) then some true else some (((a0.toNat:Int)==9))):Option Bool).bind fun (j1:Bool)=>some j1
def y4a(a0:Str):Option Bool:=
 ((Zfa a0).bind fun v2=>(bif (!v2) then (bif (a0==([]:Str)) then some true else (idx a0 0).bind fun v6=>(vra v6).bind fun v8=>(bif (!v8) then (idx a0 ((w64 ((a0.length:Int) - 1)))).bind fun v11=>(vra v11).bind fun v13=>some ((!v13)) else some false)) else some false):Option Bool).bind fun (j1:Bool)=>some j1
def qVa(s1:Int × Int)(j5:Int):Option (Step (Int × Int) Int):=
 some (.cont (j5,(w64 (s1.2+1))))
def w8a(a0:Str)(s1:Int × Int):Option (Step (Int × Int) Int):=
 (bif decide (s1.2 < (a0.length:Int)) then ((idx a0 s1.2).bind fun v7=>(vra v7).bind fun v9=>(bif (!v9) then some true else (idx a0 ((w64 (s1.2 - 1)))).bind fun v12=>(vra v12).bind fun v14=>some v14):Option Bool).bind fun (j6:Bool)=>(bif j6 then (qVa s1 s1.1) else ((bif decide (0 < s1.1) then some (decide (78 < s1.2)) else some false):Option Bool).bind fun (j17:Bool)=>(bif j17 then some (.out s1.1) else (qVa s1 s1.2))) else some (.out s1.1))
noncomputable def y5a(a0:Str)(a1:Int):Option Int:=
 (iter (w8a a0) ((0,(max a1 1)))).bind fun b2=>some b2
noncomputable def wPa(s18:Str × Int × (List Str)):Option (Step (Str × Int × (List Str)) (Str × (List Str))):=
 (bif decide (78 < (s18.1.length:Int)) then (y5a s18.1 s18.2.1).bind fun v22=>(bif (v22==0) then some (.out ((s18.1,s18.2.2))) else (cut s18.1 0 v22).bind fun v25=>(app 8796093022208 s18.2.2 (([v25]:List Str))).bind fun v27=>(cut s18.1 v22 ((s18.1.length:Int))).bind fun v29=>some (.cont (v29,0,v27))) else some (.out ((s18.1,s18.2.2))))
def yMa(v31:List Str)(s34:Int):Option (Step Int (Unit ⊕ ((List Str) × zsa))):=
 (bif decide (s34 < (v31.length:Int)) then (idx v31 s34).bind fun v40=>(bif decide (998 < (v40.length:Int)) then (zoa 1 s34).bind fun v43=>some (.out (.inr (([],v43)))) else some (.cont (w64 (s34+1)))) else some (.out (.inl (()))))
noncomputable def y6a(a0:Str)(a1:Str):Option ((List Str) × zsa):=
 (Zea a0).bind fun v1=>(bif (!v1) then (zoa 10 ((-1))).bind fun v4=>some (([],v4)) else (bif decide (4000 < (a1.length:Int)) then (zoa 1 ((-1))).bind fun v7=>some (([],v7)) else (y4a a1).bind fun v9=>(bif (!v9) then (zoa 11 ((-1))).bind fun v12=>some (([],v12)) else (cat a0 (([58,32]:Str))).bind fun v14=>(cat v14 a1).bind fun v16=>(iter (wPa) ((v16,(w64 ((a0.length:Int)+2)),([]:List Str)))).bind fun b19=>(app 8796093022208 b19.2 (([b19.1]:List Str))).bind fun v31=>(iter (yMa v31) 0).bind (Sum.elim (fun b35=>(kma).bind fun v45=>some ((v31,v45))) (fun b36=>some ((b36.1,b36.2)))))))
noncomputable def vha(a0:List zka)(s4:Int):Option (Step Int (Unit ⊕ zsa)):=
 (bif decide (s4 < (a0.length:Int)) then (idx a0 s4).bind fun v10=>(y6a v10.Name v10.Value).bind fun v12=>(z0a v12.2).bind fun v14=>(bif v14 then (zoa v12.2.Code s4).bind fun v17=>some (.out (.inr v17)) else some (.cont (w64 (s4+1)))) else some (.out (.inl (()))))
noncomputable def vsa(a0:List zka):Option zsa:=
 (bif decide (60 < (a0.length:Int)) then (zoa 2 ((-1))).bind fun v2=>some v2 else (iter (vha a0) 0).bind (Sum.elim (fun b5=>(kma).bind fun v19=>some v19) (fun b6=>some b6)))
def q7a(v7:(List Str) × zsa)(s9:Int × (List UInt8)):Option (Step (Int × (List UInt8)) (List UInt8)):=
 (bif decide (s9.1 < (v7.1.length:Int)) then (idx v7.1 s9.1).bind fun v13=>(app 140737488355328 s9.2 v13).bind fun v15=>(app 140737488355328 v15 (([(13:UInt8),(10:UInt8)]:List UInt8))).bind fun v17=>some (.cont ((w64 (s9.1+1)),v17)) else some (.out s9.2))
noncomputable def q8a(a0:zIa)(s1:Int × (List UInt8)):Option (Step (Int × (List UInt8)) (List UInt8)):=
 (bif decide (s1.1 < (a0.Fields.length:Int)) then (idx a0.Fields s1.1).bind fun v5=>(y6a v5.Name v5.Value).bind fun v7=>(iter (q7a v7) ((0,s1.2))).bind fun b10=>some (.cont ((w64 (s1.1+1)),b10)) else some (.out s1.2))
noncomputable def wda(a0:zIa):Option (List UInt8):=
 (iter (q8a a0) ((0,([]:List UInt8)))).bind fun b2=>(app 140737488355328 b2 (([(13:UInt8),(10:UInt8)]:List UInt8))).bind fun v19=>(app 140737488355328 v19 a0.Body).bind fun v21=>some v21
def wea(j7:Int × Int):Option (Step (Int × Int) (Unit ⊕ Int)):=
 some (.cont (j7.1,(w64 (j7.2+1))))
def vFa(a0:List UInt8)(s1:Int × Int):Option (Step (Int × Int) (Unit ⊕ Int)):=
 (bif decide (s1.2 < (a0.length:Int)) then (idx a0 s1.2).bind fun v8=>((bif ((v8.toNat:Int)==13) then (bif decide ((w64 (s1.2+1)) < (a0.length:Int)) then (idx a0 ((w64 (s1.2+1)))).bind fun v13=>some (((v13.toNat:Int)==10)) else some false) else some false):Option Bool).bind fun (j10:Bool)=>(bif j10 then (wea (0,(w64 (s1.2+1)))) else ((bif ((v8.toNat:Int)==13) then some true else some (((v8.toNat:Int)==10))):Option Bool).bind fun (j16:Bool)=>(bif j16 then some (.out (.inr 11)) else (bif decide (998 < (w64 (s1.1+1))) then some (.out (.inr 1)) else (wea ((w64 (s1.1+1)),s1.2))))) else some (.out (.inl (()))))
noncomputable def y7a(a0:List UInt8):Option Int:=
 (iter (vFa a0) ((0,0))).bind (Sum.elim (fun b2=>some 0) (fun b3=>some b3))
noncomputable def wQa(a0:List UInt8):Option zsa:=
 (y7a a0).bind fun v1=>(bif (v1==11) then (zoa 11 ((-5))).bind fun v4=>some v4 else (bif (v1==1) then (zoa 1 ((-6))).bind fun v7=>some v7 else (kma).bind fun v9=>some v9))
noncomputable def q9a(a0:zIa):Option zsa:=
 (vsa a0.Fields).bind fun v1=>(z0a v1).bind fun v3=>(bif v3 then some v1 else (wda a0).bind fun v6=>(bif decide (12000 < (v6.length:Int)) then (zoa 1 ((-4))).bind fun v9=>some v9 else (wQa a0.Body).bind fun v11=>some v11))
noncomputable def qCa(a0:kha):Option zsa:=
 (qOa a0.Envelope).bind fun v1=>(z0a v1).bind fun v3=>(bif v3 then some v1 else (q9a a0.Message).bind fun v6=>(z0a v6).bind fun v8=>(bif v8 then (zoa v6.Code ((-30))).bind fun v11=>some v11 else (kma).bind fun v13=>some v13))
def vSa(a0:zIa)(a1:zIa)(s4:Int):Option (Step Int (Unit ⊕ Bool)):=
 (bif decide (s4 < (a0.Fields.length:Int)) then (idx a0.Fields s4).bind fun v10=>(idx a1.Fields s4).bind fun v12=>(bif (!(qta [(v10.Name==v12.Name),(v10.Value==v12.Value)])) then some (.out (.inr false)) else some (.cont (w64 (s4+1)))) else some (.out (.inl (()))))
noncomputable def wfa(a0:zIa)(a1:zIa):Option Bool:=
 ((bif ((a0.Fields.length:Int) !=(a1.Fields.length:Int)) then some true else some ((a0.Body !=a1.Body))):Option Bool).bind fun (j1:Bool)=>(bif j1 then some false else (iter (vSa a0 a1) 0).bind (Sum.elim (fun b5=>some true) (fun b6=>some b6)))
def w9a(a0:kha)(a1:kha)(s5:Int):Option (Step Int (Unit ⊕ Bool)):=
 (bif decide (s5 < (a0.Envelope.To.length:Int)) then (idx a0.Envelope.To s5).bind fun v11=>(idx a1.Envelope.To s5).bind fun v13=>(bif (!(qta [(v11.Address==v13.Address),(v11.Notify==v13.Notify)])) then some (.out (.inr false)) else some (.cont (w64 (s5+1)))) else some (.out (.inl (()))))
noncomputable def y8a(a0:kha)(a1:kha):Option Bool:=
 ((bif (a0.Envelope.From !=a1.Envelope.From) then some true else (bif (a0.Envelope.Id !=a1.Envelope.Id) then some true else some (((a0.Envelope.To.length:Int) !=(a1.Envelope.To.length:Int))))):Option Bool).bind fun (j1:Bool)=>(bif j1 then some false else (iter (w9a a0 a1) 0).bind (Sum.elim (fun b6=>(wfa a0.Message a1.Message).bind fun v16=>some v16) (fun b7=>some b7)))
noncomputable def kna(a0:List zka):Option (List zka):=
 (nilE a0.isEmpty (some ([])) ((app 4398046511104 ([]:List zka) a0).bind fun v2=>some v2))
noncomputable def qea(a0:kha):Option kha:=
 ((nilE a0.Envelope.To.isEmpty (some ([])) ((app 5864062014805 ([]:List zba) a0.Envelope.To).bind fun v3=>some v3)):Option (List zba)).bind fun (j1:List zba)=>(kna a0.Message.Fields).bind fun v5=>((nilE a0.Message.Body.isEmpty (some ([])) ((app 140737488355328 ([]:List UInt8) a0.Message.Body).bind fun v9=>some v9)):Option (List UInt8)).bind fun (j7:List UInt8)=>some ((kha.mk ((zOa.mk a0.Envelope.From j1 a0.Envelope.Id)) ((zIa.mk v5 j7))))
def dates_split(a0:Int)(a1:Int):Option (Int × Int):=
 (nz a1).bind fun v1=>(nz a1).bind fun v3=>(nz a1).bind fun v5=>some (((iQuo ((w64 (a0 - (iRem ((w64 ((iRem a0 a1)+a1))) a1)))) a1),(iRem ((w64 ((iRem a0 a1)+a1))) a1)))
def kra(a0:List (List UInt8))(s1:Int × Int):Option (Step (Int × Int) Int):=
 (bif decide (s1.2 < (a0.length:Int)) then (idx a0 s1.2).bind fun v5=>(bif decide ((w64 (s1.1+(v5.length:Int))) < 0) then none else some (.cont ((w64 (s1.1+(v5.length:Int))),(w64 (s1.2+1))))) else some (.out s1.1))
def ksa(a0:List (List UInt8))(s14:Int × (List UInt8)):Option (Step (Int × (List UInt8)) (List UInt8)):=
 (bif decide (s14.1 < (a0.length:Int)) then (idx a0 s14.1).bind fun v18=>(app 140737488355328 s14.2 v18).bind fun v20=>some (.cont ((w64 (s14.1+1)),v20)) else some (.out s14.2))
def kUa(a0:List (List UInt8))(s22:Int × (List UInt8)):Option (Step (Int × (List UInt8)) (List UInt8)):=
 (bif decide (s22.1 < (a0.length:Int)) then (idx a0 s22.1).bind fun v26=>(app 140737488355328 s22.2 v26).bind fun v28=>some (.cont ((w64 (s22.1+1)),v28)) else some (.out s22.2))
noncomputable def kPa(a0:List (List UInt8)):Option (List UInt8):=
 (iter (kra a0) ((0,0))).bind fun b2=>(bif decide (b2 < 0) then none else (bif decide (0 < (w64 (b2 - (w64 (0 - 0))))) then (zrep 140737488355328 ((w64 (b2 - (w64 (0 - 0))))) ((0:UInt8):UInt8)).bind fun v10=>(cut v10 0 0).bind fun v12=>(iter (ksa a0) ((0,v12))).bind fun b15=>some b15 else (iter (kUa a0) ((0,([]:List UInt8)))).bind fun b23=>some b23))
def KEa(a0:List Int)(a1:List Int)(s2:Int):Option (Step Int (Unit ⊕ Bool)):=
 (bif decide (s2 < (a0.length:Int)) then (idx a0 s2).bind fun v8=>(idx a1 s2).bind fun v10=>(bif (v8 !=v10) then some (.out (.inr false)) else some (.cont (w64 (s2+1)))) else some (.out (.inl (()))))
noncomputable def W8a(a0:List Int)(a1:List Int):Option Bool:=
 (bif ((a0.length:Int) !=(a1.length:Int)) then some false else (iter (KEa a0 a1) 0).bind (Sum.elim (fun b3=>some true) (fun b4=>some b4)))
def yqa(a0:List Str)(s1:Int × (List zba)):Option (Step (Int × (List zba)) (List zba)):=
 (bif decide (s1.1 < (a0.length:Int)) then (idx a0 s1.1).bind fun v5=>(app 5864062014805 s1.2 (([(zba.mk v5 1)]:List zba))).bind fun v7=>some (.cont ((w64 (s1.1+1)),v7)) else some (.out s1.2))
noncomputable def KFa(a0:List Str):Option kha:=
 (iter (yqa a0) ((0,([]:List zba)))).bind fun b2=>some ((kha.mk ((zOa.mk (([115,64,120]:Str)) b2 (([55]:Str)))) ((zIa.mk ([]) ([])))))
def vaa(s2:Bool × Int)(j8:Bool):Option (Step (Bool × Int) (Bool ⊕ Bool)):=
 some (.cont (j8,(w64 (s2.2+1))))
def qra(a0:zca)(s2:Bool × Int):Option (Step (Bool × Int) (Bool ⊕ Bool)):=
 (bif decide (s2.2 < (a0.To.length:Int)) then (idx a0.To s2.2).bind fun v9=>((idx a0.Mail.Envelope.To s2.2).bind fun v12=>(bif (!(qta [(v9.Recipient.Address==v12.Address),(v9.Recipient.Notify==v12.Notify)])) then some true else (bif (v9.Result !=0) then (bif (v9.Result !=1) then (bif (v9.Result !=3) then some true else (bif v9.Busy then some ((v9.Result !=0)) else some false)) else (bif v9.Busy then some ((v9.Result !=0)) else some false)) else (bif v9.Busy then some ((v9.Result !=0)) else some false))):Option Bool).bind fun (j11:Bool)=>(bif j11 then some (.out (.inr false)) else (bif s2.1 then (vaa s2 true) else (vaa s2 (v9.Result==0)))) else some (.out (.inl s2.1)))
noncomputable def qWa(a0:zca):Option Bool:=
 (bif ((a0.To.length:Int) !=(a0.Mail.Envelope.To.length:Int)) then some false else (iter (qra a0) ((false,0))).bind (Sum.elim (fun b3=>some b3) (fun b4=>some b4)))
noncomputable def qha(a0:zva)(s9:Int × Int):Option (Step (Int × Int) (Unit ⊕ zsa)):=
 (bif decide (s9.2 < (a0.Entries.length:Int)) then (idx a0.Entries s9.2).bind fun v15=>(qCa v15.Mail).bind fun v17=>(z0a v17).bind fun v19=>(bif v19 then (zoa v17.Code s9.2).bind fun v22=>some (.out (.inr v22)) else ((bif decide (v15.Id<=s9.1) then some true else some (decide (a0.Next<=v15.Id))):Option Bool).bind fun (j24:Bool)=>(bif j24 then (zoa 19 s9.2).bind fun v27=>some (.out (.inr v27)) else ((qLa v15.Since).bind fun v30=>(bif (!v30) then some true else (qLa v15.Due).bind fun v33=>(bif (!v33) then some true else (bif decide (v15.Tries < 0) then some true else some (decide (1000000 < v15.Tries))))):Option Bool).bind fun (j29:Bool)=>(bif j29 then (zoa 3 s9.2).bind fun v38=>some (.out (.inr v38)) else (qWa v15).bind fun v40=>(bif (!v40) then (zoa 5 s9.2).bind fun v43=>some (.out (.inr v43)) else some (.cont (v15.Id,(w64 (s9.2+1)))))))) else some (.out (.inl (()))))
noncomputable def vda(a0:zva):Option zsa:=
 (bif decide (20 < (a0.Entries.length:Int)) then (zoa 2 ((-1))).bind fun v2=>some v2 else ((bif decide (a0.Next < 0) then some true else some (decide (1000000 < a0.Next))):Option Bool).bind fun (j4:Bool)=>(bif j4 then (zoa 3 ((-2))).bind fun v7=>some v7 else (iter (qha a0) (((-1),0))).bind (Sum.elim (fun b10=>(kma).bind fun v45=>some v45) (fun b11=>some b11))))
noncomputable def zWa(a0:List zca):Option (List zca):=
 (nilE a0.isEmpty (some ([])) ((app 879609302220 ([]:List zca) a0).bind fun v2=>some v2))
noncomputable def zMa(a0:List zga):Option (List zga):=
 (nilE a0.isEmpty (some ([])) ((app 3518437208883 ([]:List zga) a0).bind fun v2=>some v2))
noncomputable def wRa(v23:List zca)(s25:Int × Nat × (List zca)):Option (Step (Int × Nat × (List zca)) ((List zca) × Nat)):=
 (bif decide (s25.1 < (v23.length:Int)) then (idx s25.2.2 s25.1).bind fun v29=>(idx s25.2.2 s25.1).bind fun v31=>(qea v31.Mail).bind fun v33=>(W4a s25.2.1 s25.1).bind fun v35=>(idx s25.2.2 s25.1).bind fun v37=>(zMa v37.To).bind fun v39=>(idx s25.2.2 s25.1).bind fun v41=>(qvb s25.2.1 s25.1).bind fun v43=>(idx ((List.set s25.2.2 (Int.toNat s25.1) ((zca.mk v41.Id v33 v41.Since v41.Tries v41.Due v41.To)))) s25.1).bind fun v45=>some (.cont ((w64 (s25.1+1)),(s25.2.1+1),(List.set ((List.set s25.2.2 (Int.toNat s25.1) ((zca.mk v41.Id v33 v41.Since v41.Tries v41.Due v41.To)))) (Int.toNat s25.1) ((zca.mk v45.Id v45.Mail v45.Since v45.Tries v45.Due v39))))) else some (.out ((s25.2.2,s25.2.1))))
def v2a(a1:kha)(s49:Int × (List zga)):Option (Step (Int × (List zga)) (List zga)):=
 (bif decide (s49.1 < (a1.Envelope.To.length:Int)) then (idx a1.Envelope.To s49.1).bind fun v53=>(app 3518437208883 s49.2 (([(zga.mk v53 0 false)]:List zga))).bind fun v55=>some (.cont ((w64 (s49.1+1)),v55)) else some (.out s49.2))
noncomputable def Zga(a0:zva)(a1:kha)(a2:Int):Option (zva × Int × zsa):=
 (vda a0).bind fun v1=>(z0a v1).bind fun v3=>(bif v3 then some (((zva.mk ([]) 0),0,v1)) else (qCa a1).bind fun v6=>(z0a v6).bind fun v8=>(bif v8 then (zoa v6.Code ((-6))).bind fun v11=>some (((zva.mk ([]) 0),0,v11)) else (qLa a2).bind fun v13=>(bif (!v13) then (zoa 3 ((-7))).bind fun v16=>some (((zva.mk ([]) 0),0,v16)) else ((bif ((a0.Entries.length:Int)==20) then some true else some ((a0.Next==1000000))):Option Bool).bind fun (j18:Bool)=>(bif j18 then (zoa 2 ((-8))).bind fun v21=>some (((zva.mk ([]) 0),0,v21)) else (zWa a0.Entries).bind fun v23=>(iter (wRa v23) ((0,0,v23))).bind fun b26=>(qea a1).bind fun v47=>(iter (v2a a1) ((0,([]:List zga)))).bind fun b50=>(nall b26.2 (List.length b26.1)).bind fun v57=>(app 879609302220 b26.1 [(zca.mk a0.Next v47 a2 0 a2 b50)]).bind fun v59=>(kma).bind fun v61=>some (((zva.mk v59 ((w64 (a0.Next+1)))),a0.Next,v61))))))
noncomputable def vta(a0:Str):Option Str:=
 (vca a0).bind fun v1=>some v1.2.1
noncomputable def vea(v53:zca)(s55:Int × (List ((Int × Str) × Bool)) × (List (Str × Int))):Option (Step (Int × (List ((Int × Str) × Bool)) × (List (Str × Int))) ((List ((Int × Str) × Bool)) × (List (Str × Int)))):=
 (bif decide (s55.1 < (v53.To.length:Int)) then ((idx v53.To s55.1).bind fun v60=>(vta v60.Recipient.Address).bind fun v62=>((bif v60.Busy then some ((!(((mget s55.2.1 ((v53.Id,v62))).getD false)))) else some false):Option Bool).bind fun (j64:Bool)=>(bif j64 then some (((mput s55.2.1 ((v53.Id,v62)) true),(mput s55.2.2 v62 ((w64 (((mget s55.2.2 v62).getD 0)+1)))))) else some ((s55.2.1,s55.2.2))):Option ((List ((Int × Str) × Bool)) × (List (Str × Int)))).bind fun (j59:(List ((Int × Str) × Bool)) × (List (Str × Int)))=>some (.cont ((w64 (s55.1+1)),j59.1,j59.2)) else some (.out ((s55.2.1,s55.2.2))))
noncomputable def vMa(a0:zva)(s49:Int × (List ((Int × Str) × Bool)) × (List (Str × Int))):Option (Step (Int × (List ((Int × Str) × Bool)) × (List (Str × Int))) ((List ((Int × Str) × Bool)) × (List (Str × Int)))):=
 (bif decide (s49.1 < (a0.Entries.length:Int)) then (idx a0.Entries s49.1).bind fun v53=>(iter (vea v53) ((0,s49.2.1,s49.2.2))).bind fun b56=>some (.cont ((w64 (s49.1+1)),b56.1,b56.2)) else some (.out ((s49.2.1,s49.2.2))))
def vba(a0:zva)(a1:zwa)(s7:Int):Option (Step Int (Unit ⊕ Int)):=
 (bif decide (s7 < (a0.Entries.length:Int)) then (idx a0.Entries s7).bind fun v13=>(bif (v13.Id==a1.Entry) then some (.out (.inr s7)) else some (.cont (w64 (s7+1)))) else some (.out (.inl (()))))
noncomputable def kSa(a1:zwa)(a2:Bool)(v19:zca)(s26:Int):Option (Step Int (Unit ⊕ (Int × zsa))):=
 (bif decide (s26 < (a1.To.length:Int)) then (idx a1.To s26).bind fun v32=>((bif decide (v32 < 0) then some true else (bif decide ((v19.To.length:Int)<=v32) then some true else (bif decide (0 < s26) then (idx a1.To ((w64 (s26 - 1)))).bind fun v38=>some (decide (v32<=v38)) else some false))):Option Bool).bind fun (j34:Bool)=>(bif j34 then (zoa 3 s26).bind fun v41=>some (.out (.inr ((0,v41)))) else (idx v19.To v32).bind fun v43=>(vta v43.Recipient.Address).bind fun v45=>(bif (v45 !=a1.Domain) then (zoa 5 s26).bind fun v48=>some (.out (.inr ((0,v48)))) else ((idx v19.To v32).bind fun v51=>(bif (v51.Result !=0) then some true else (idx v19.To v32).bind fun v54=>some ((v54.Busy !=a2))):Option Bool).bind fun (j50:Bool)=>(bif j50 then (zoa 8 s26).bind fun v57=>some (.out (.inr ((0,v57)))) else some (.cont (w64 (s26+1)))))) else some (.out (.inl (()))))
noncomputable def vGa(a0:zva)(a1:zwa)(a2:Bool):Option (Int × zsa):=
 (vda a0).bind fun v1=>(z0a v1).bind fun v3=>(bif v3 then some ((0,v1)) else ((iter (vba a0 a1) 0).bind (Sum.elim (fun b8=>some ((-1))) (fun b9=>some b9)):Option Int).bind fun (j6:Int)=>(bif decide (j6 < 0) then (zoa 6 ((-3))).bind fun v17=>some ((0,v17)) else (idx a0.Entries j6).bind fun v19=>((bif ((a1.To.length:Int)==0) then some true else some (decide ((v19.To.length:Int) < (a1.To.length:Int)))):Option Bool).bind fun (j21:Bool)=>(bif j21 then (zoa 2 ((-4))).bind fun v24=>some ((0,v24)) else (iter (kSa a1 a2 v19) 0).bind (Sum.elim (fun b27=>(kma).bind fun v59=>some ((j6,v59))) (fun b28=>some ((b28.1,b28.2)))))))
noncomputable def KGa(v10:zca)(s12:Int × (List ((Int × Str) × Bool)) × (List (Str × Int))):Option (Step (Int × (List ((Int × Str) × Bool)) × (List (Str × Int))) ((List ((Int × Str) × Bool)) × (List (Str × Int)))):=
 (bif decide (s12.1 < (v10.To.length:Int)) then ((idx v10.To s12.1).bind fun v17=>(vta v17.Recipient.Address).bind fun v19=>((bif v17.Busy then some ((!(((mget s12.2.1 ((v10.Id,v19))).getD false)))) else some false):Option Bool).bind fun (j21:Bool)=>(bif j21 then some (((mput s12.2.1 ((v10.Id,v19)) true),(mput s12.2.2 v19 ((w64 (((mget s12.2.2 v19).getD 0)+1)))))) else some ((s12.2.1,s12.2.2))):Option ((List ((Int × Str) × Bool)) × (List (Str × Int)))).bind fun (j16:(List ((Int × Str) × Bool)) × (List (Str × Int)))=>some (.cont ((w64 (s12.1+1)),j16.1,j16.2)) else some (.out ((s12.2.1,s12.2.2))))
noncomputable def jDa(a0:zva)(s6:Int × (List ((Int × Str) × Bool)) × (List (Str × Int))):Option (Step (Int × (List ((Int × Str) × Bool)) × (List (Str × Int))) ((List ((Int × Str) × Bool)) × (List (Str × Int)))):=
 (bif decide (s6.1 < (a0.Entries.length:Int)) then (idx a0.Entries s6.1).bind fun v10=>(iter (KGa v10) ((0,s6.2.1,s6.2.2))).bind fun b13=>some (.cont ((w64 (s6.1+1)),b13.1,b13.2)) else some (.out ((s6.2.1,s6.2.2))))
noncomputable def jEa(v29:List zca)(s31:Int × Nat × (List zca)):Option (Step (Int × Nat × (List zca)) ((List zca) × Nat)):=
 (bif decide (s31.1 < (v29.length:Int)) then (idx s31.2.2 s31.1).bind fun v35=>(idx s31.2.2 s31.1).bind fun v37=>(qea v37.Mail).bind fun v39=>(W4a s31.2.1 s31.1).bind fun v41=>(idx s31.2.2 s31.1).bind fun v43=>(zMa v43.To).bind fun v45=>(idx s31.2.2 s31.1).bind fun v47=>(qvb s31.2.1 s31.1).bind fun v49=>(idx ((List.set s31.2.2 (Int.toNat s31.1) ((zca.mk v47.Id v39 v47.Since v47.Tries v47.Due v47.To)))) s31.1).bind fun v51=>some (.cont ((w64 (s31.1+1)),(s31.2.1+1),(List.set ((List.set s31.2.2 (Int.toNat s31.1) ((zca.mk v47.Id v39 v47.Since v47.Tries v47.Due v47.To)))) (Int.toNat s31.1) ((zca.mk v51.Id v51.Mail v51.Since v51.Tries v51.Due v45))))) else some (.out ((s31.2.2,s31.2.1))))
def wga(a1:zwa)(v1:Int × zsa)(b32:(List zca) × Nat)(s53:Int × (List zca)):Option (Step (Int × (List zca)) (List zca)):=
 (bif decide (s53.1 < (a1.To.length:Int)) then (idx a1.To s53.1).bind fun v57=>(idx s53.2 v1.1).bind fun v59=>(nown b32.2 v1.1).bind fun v61=>(idx s53.2 v1.1).bind fun v63=>(idx s53.2 v1.1).bind fun v65=>(idx v65.To v57).bind fun v67=>(idx s53.2 v1.1).bind fun v69=>(idx v69.To v57).bind fun v71=>some (.cont ((w64 (s53.1+1)),(List.set s53.2 (Int.toNat v1.1) ((zca.mk v69.Id v69.Mail v69.Since v69.Tries v69.Due ((List.set v69.To (Int.toNat v57) ((zga.mk v71.Recipient v71.Result true))))))))) else some (.out s53.2))
noncomputable def y9a(a0:zva)(a1:zwa):Option (zva × zsa):=
 (vGa a0 a1 false).bind fun v1=>(z0a v1.2).bind fun v3=>(bif v3 then some (((zva.mk ([]) 0),v1.2)) else (iter (jDa a0) ((0,([]:List ((Int × Str) × Bool)),([]:List (Str × Int))))).bind fun b7=>((bif decide (2<=((mget b7.2 a1.Domain).getD 0)) then some true else some (((mget b7.1 ((a1.Entry,a1.Domain))).getD false))):Option Bool).bind fun (j24:Bool)=>(bif j24 then (zoa 8 ((-5))).bind fun v27=>some (((zva.mk ([]) 0),v27)) else (zWa a0.Entries).bind fun v29=>(iter (jEa v29) ((0,0,v29))).bind fun b32=>(iter (wga a1 v1 b32) ((0,b32.1))).bind fun b54=>(kma).bind fun v73=>some (((zva.mk b54 a0.Next),v73))))
def qwa(a1:Int)(s17:Int × Int):Option (Step (Int × Int) Int):=
 ((bif decide (s17.2 < a1) then some (decide (s17.1 < 14400)) else some false):Option Bool).bind fun (j20:Bool)=>(bif j20 then some (.cont ((min ((w64 (2 * s17.1))) 14400),(w64 (s17.2+1)))) else some (.out s17.1))
noncomputable def jaa(a0:Int)(a1:Int)(a2:Int):Option (Int × Bool × zsa):=
 (ypa (([a0,a2]:List Int))).bind fun v1=>(bif (!v1) then (zoa 3 ((-2))).bind fun v4=>some ((0,false,v4)) else ((bif decide (a1 < 1) then some true else some (decide (1000000 < a1))):Option Bool).bind fun (j6:Bool)=>(bif j6 then (zoa 3 ((-3))).bind fun v9=>some ((0,false,v9)) else (bif decide (a2 < a0) then (zoa 19 ((-4))).bind fun v12=>some ((0,false,v12)) else (bif decide ((w64 (a0+345600))<=a2) then (kma).bind fun v15=>some ((0,false,v15)) else (iter (qwa a1) ((60,1))).bind fun b18=>(kma).bind fun v23=>some (((min (min ((w64 (a2+b18))) ((w64 (a0+345600)))) 68719476736),true,v23))))))
def wha(a2:List Int)(s10:Int):Option (Step Int (Unit ⊕ Int)):=
 (bif decide (s10 < (a2.length:Int)) then (idx a2 s10).bind fun v16=>((bif decide (v16 < 1) then some true else some (decide (4 < v16))):Option Bool).bind fun (j18:Bool)=>(bif j18 then some (.out (.inr s10)) else some (.cont (w64 (s10+1)))) else some (.out (.inl (()))))
noncomputable def jFa(v34:List zca)(s36:Int × Nat × (List zca)):Option (Step (Int × Nat × (List zca)) ((List zca) × Nat)):=
 (bif decide (s36.1 < (v34.length:Int)) then (idx s36.2.2 s36.1).bind fun v40=>(idx s36.2.2 s36.1).bind fun v42=>(qea v42.Mail).bind fun v44=>(W4a s36.2.1 s36.1).bind fun v46=>(idx s36.2.2 s36.1).bind fun v48=>(zMa v48.To).bind fun v50=>(idx s36.2.2 s36.1).bind fun v52=>(qvb s36.2.1 s36.1).bind fun v54=>(idx ((List.set s36.2.2 (Int.toNat s36.1) ((zca.mk v52.Id v44 v52.Since v52.Tries v52.Due v52.To)))) s36.1).bind fun v56=>some (.cont ((w64 (s36.1+1)),(s36.2.1+1),(List.set ((List.set s36.2.2 (Int.toNat s36.1) ((zca.mk v52.Id v44 v52.Since v52.Tries v52.Due v52.To)))) (Int.toNat s36.1) ((zca.mk v56.Id v56.Mail v56.Since v56.Tries v56.Due v50))))) else some (.out ((s36.2.2,s36.2.1))))
def wia(a2:List Int)(s62:Int):Option (Step Int (Unit ⊕ Int)):=
 (bif decide (s62 < (a2.length:Int)) then (idx a2 s62).bind fun v68=>((bif (v68==2) then some true else some ((v68==4))):Option Bool).bind fun (j70:Bool)=>(bif j70 then some (.out (.inr s62)) else some (.cont (w64 (s62+1)))) else some (.out (.inl (()))))
def qXa(a1:zwa)(a2:List Int)(v1:Int × zsa)(b37:(List zca) × Nat)(j60:Bool × (List zca))(s90:Int × (List zla) × (List zca)):Option (Step (Int × (List zla) × (List zca)) ((List zla) × (List zca))):=
 (bif decide (s90.1 < (a1.To.length:Int)) then ((idx a1.To s90.1).bind fun v95=>(idx a2 s90.1).bind fun v97=>(nown b37.2 v1.1).bind fun v99=>(idx s90.2.2 v1.1).bind fun v101=>(idx s90.2.2 v1.1).bind fun v103=>(idx v103.To v95).bind fun v105=>(idx s90.2.2 v1.1).bind fun v107=>(idx v107.To v95).bind fun v109=>(((bif (v97==2) then some true else some ((v97==4))):Option Bool).bind fun (j112:Bool)=>(bif j112 then some j60.1 else some false):Option Bool).bind fun (j111:Bool)=>(bif j111 then some ((s90.2.1,(List.set s90.2.2 (Int.toNat v1.1) ((zca.mk v107.Id v107.Mail v107.Since v107.Tries v107.Due ((List.set v107.To (Int.toNat v95) ((zga.mk v109.Recipient v109.Result false))))))))) else (((bif (v97==2) then some true else some ((v97==4))):Option Bool).bind fun (j117:Bool)=>(bif j117 then some 3 else some v97):Option Int).bind fun (j116:Int)=>(nown b37.2 v1.1).bind fun v120=>(idx ((List.set s90.2.2 (Int.toNat v1.1) ((zca.mk v107.Id v107.Mail v107.Since v107.Tries v107.Due ((List.set v107.To (Int.toNat v95) ((zga.mk v109.Recipient v109.Result false)))))))) v1.1).bind fun v122=>(idx ((List.set s90.2.2 (Int.toNat v1.1) ((zca.mk v107.Id v107.Mail v107.Since v107.Tries v107.Due ((List.set v107.To (Int.toNat v95) ((zga.mk v109.Recipient v109.Result false)))))))) v1.1).bind fun v124=>(idx v124.To v95).bind fun v126=>(idx ((List.set s90.2.2 (Int.toNat v1.1) ((zca.mk v107.Id v107.Mail v107.Since v107.Tries v107.Due ((List.set v107.To (Int.toNat v95) ((zga.mk v109.Recipient v109.Result false)))))))) v1.1).bind fun v128=>(idx v128.To v95).bind fun v130=>(idx ((List.set ((List.set s90.2.2 (Int.toNat v1.1) ((zca.mk v107.Id v107.Mail v107.Since v107.Tries v107.Due ((List.set v107.To (Int.toNat v95) ((zga.mk v109.Recipient v109.Result false)))))))) (Int.toNat v1.1) ((zca.mk v128.Id v128.Mail v128.Since v128.Tries v128.Due ((List.set v128.To (Int.toNat v95) ((zga.mk v130.Recipient j116 v130.Busy)))))))) v1.1).bind fun v132=>(app 5864062014805 s90.2.1 (([(zla.mk v132.Id v95 j116)]:List zla))).bind fun v134=>some ((v134,(List.set ((List.set s90.2.2 (Int.toNat v1.1) ((zca.mk v107.Id v107.Mail v107.Since v107.Tries v107.Due ((List.set v107.To (Int.toNat v95) ((zga.mk v109.Recipient v109.Result false)))))))) (Int.toNat v1.1) ((zca.mk v128.Id v128.Mail v128.Since v128.Tries v128.Due ((List.set v128.To (Int.toNat v95) ((zga.mk v130.Recipient j116 v130.Busy)))))))))):Option ((List zla) × (List zca))).bind fun (j94:(List zla) × (List zca))=>some (.cont ((w64 (s90.1+1)),j94.1,j94.2)) else some (.out ((s90.2.1,s90.2.2))))
noncomputable def jba(a0:zva)(a1:zwa)(a2:List Int)(a3:Int):Option (zva × (List zla) × zsa):=
 (vGa a0 a1 true).bind fun v1=>(z0a v1.2).bind fun v3=>(bif v3 then some (((zva.mk ([]) 0),[],v1.2)) else (bif ((a2.length:Int) !=(a1.To.length:Int)) then (zoa 9 ((-6))).bind fun v7=>some (((zva.mk ([]) 0),[],v7)) else ((iter (wha a2) 0).bind (Sum.elim (fun b11=>some ((-1))) (fun b12=>some b12)):Option Int).bind fun (j9:Int)=>(bif decide (0<=j9) then (zoa 3 ((-6))).bind fun v22=>some (((zva.mk ([]) 0),[],v22)) else (qLa a3).bind fun v24=>(bif (!v24) then (zoa 3 ((-7))).bind fun v27=>some (((zva.mk ([]) 0),[],v27)) else (idx a0.Entries v1.1).bind fun v29=>(bif decide (a3 < v29.Since) then (zoa 19 ((-7))).bind fun v32=>some (((zva.mk ([]) 0),[],v32)) else (zWa a0.Entries).bind fun v34=>(iter (jFa v34) ((0,0,v34))).bind fun b37=>(idx b37.1 v1.1).bind fun v58=>(((iter (wia a2) 0).bind (Sum.elim (fun b63=>some ((-1))) (fun b64=>some b64)):Option Int).bind fun (j61:Int)=>(bif decide (0<=j61) then (idx b37.1 v1.1).bind fun v74=>(idx b37.1 v1.1).bind fun v76=>(idx ((List.set b37.1 (Int.toNat v1.1) ((zca.mk v76.Id v76.Mail v76.Since ((min ((w64 (v74.Tries+1))) 1000000)) v76.Due v76.To)))) v1.1).bind fun v78=>(idx ((List.set b37.1 (Int.toNat v1.1) ((zca.mk v76.Id v76.Mail v76.Since ((min ((w64 (v74.Tries+1))) 1000000)) v76.Due v76.To)))) v1.1).bind fun v80=>(jaa v78.Since v80.Tries a3).bind fun v82=>((bif v82.2.1 then (idx ((List.set b37.1 (Int.toNat v1.1) ((zca.mk v76.Id v76.Mail v76.Since ((min ((w64 (v74.Tries+1))) 1000000)) v76.Due v76.To)))) v1.1).bind fun v86=>(idx ((List.set b37.1 (Int.toNat v1.1) ((zca.mk v76.Id v76.Mail v76.Since ((min ((w64 (v74.Tries+1))) 1000000)) v76.Due v76.To)))) v1.1).bind fun v88=>some ((List.set ((List.set b37.1 (Int.toNat v1.1) ((zca.mk v76.Id v76.Mail v76.Since ((min ((w64 (v74.Tries+1))) 1000000)) v76.Due v76.To)))) (Int.toNat v1.1) ((zca.mk v88.Id v88.Mail v88.Since v88.Tries ((max v82.1 v86.Due)) v88.To)))) else some ((List.set b37.1 (Int.toNat v1.1) ((zca.mk v76.Id v76.Mail v76.Since ((min ((w64 (v74.Tries+1))) 1000000)) v76.Due v76.To))))):Option (List zca)).bind fun (j84:List zca)=>some ((v82.2.1,j84)) else some ((true,b37.1))):Option (Bool × (List zca))).bind fun (j60:Bool × (List zca))=>(iter (qXa a1 a2 v1 b37 j60) ((0,([]:List zla),j60.2))).bind fun b91=>((idx b91.2 v1.1).bind fun v137=>(qWa v137).bind fun v139=>(bif (!v139) then ((cut3 b91.2 v1.1 ((w64 (v1.1+1))) ((b91.2.length:Int))).bind fun v143=>(bif (v1.1==(w64 (v1.1+1))) then some b91.2 else (cut b91.2 0 v1.1).bind fun v146=>(cut b91.2 ((w64 (v1.1+1))) (b91.2.length:Int)).bind fun v148=>(shft b91.2 v1.1 ((w64 (v1.1+1)))).bind fun v150=>(VDa v150 (((((Int.toNat v1.1)+(b91.2.length - (Int.toNat ((w64 (v1.1+1)))))):Nat):Int)) ((b91.2.length:Int))).bind fun v152=>some ((List.take ((Int.toNat v1.1)+(b91.2.length - (Int.toNat ((w64 (v1.1+1)))))) ((clr0 v150 (Int.toNat (((((Int.toNat v1.1)+(b91.2.length - (Int.toNat ((w64 (v1.1+1)))))):Nat):Int))) ((zca.mk 0 ((kha.mk ((zOa.mk (([]:Str)) ([]) (([]:Str)))) ((zIa.mk ([]) ([]))))) 0 0 0 ([])))))))):Option (List zca)).bind fun (j142:List zca)=>some j142 else some b91.2):Option (List zca)).bind fun (j136:List zca)=>(kma).bind fun v154=>some (((zva.mk j136 a0.Next),b91.1,v154)))))))
def Kda(a1:zwa)(v4:Int × zsa)(b21:(List zca) × Nat)(s32:Int × (List zca)):Option (Step (Int × (List zca)) (List zca)):=
 (bif decide (s32.1 < (a1.To.length:Int)) then (idx s32.2 v4.1).bind fun v36=>(nown b21.2 v4.1).bind fun v38=>(idx s32.2 v4.1).bind fun v40=>(idx a1.To s32.1).bind fun v42=>(idx s32.2 v4.1).bind fun v44=>(idx v44.To v42).bind fun v46=>(idx s32.2 v4.1).bind fun v48=>(idx v48.To v42).bind fun v50=>some (.cont ((w64 (s32.1+1)),(List.set s32.2 (Int.toNat v4.1) ((zca.mk v48.Id v48.Mail v48.Since v48.Tries v48.Due ((List.set v48.To (Int.toNat v42) ((zga.mk v50.Recipient v50.Result true))))))))) else some (.out s32.2))
def yUa(a1:zwa)(a2:List Int)(j3:Int × Int × Int)(b52:(List zca) × Nat)(j63:Int × (List zca))(s88:Int × (List zla) × (List zca)):Option (Step (Int × (List zla) × (List zca)) ((List zla) × (List zca))):=
 (bif decide (s88.1 < (a1.To.length:Int)) then ((idx a2 s88.1).bind fun v93=>(((bif (v93==2) then some true else some ((v93==4))):Option Bool).bind fun (j96:Bool)=>(bif j96 then some j63.1 else some v93):Option Int).bind fun (j95:Int)=>(idx s88.2.2 j3.1).bind fun v99=>(nown b52.2 j3.1).bind fun v101=>(idx s88.2.2 j3.1).bind fun v103=>(idx a1.To s88.1).bind fun v105=>(idx s88.2.2 j3.1).bind fun v107=>(idx v107.To v105).bind fun v109=>(idx s88.2.2 j3.1).bind fun v111=>(idx v111.To v105).bind fun v113=>(idx ((List.set s88.2.2 (Int.toNat j3.1) ((zca.mk v111.Id v111.Mail v111.Since v111.Tries v111.Due ((List.set v111.To (Int.toNat v105) ((zga.mk v113.Recipient v113.Result false)))))))) j3.1).bind fun v115=>(nown b52.2 j3.1).bind fun v117=>(idx ((List.set s88.2.2 (Int.toNat j3.1) ((zca.mk v111.Id v111.Mail v111.Since v111.Tries v111.Due ((List.set v111.To (Int.toNat v105) ((zga.mk v113.Recipient v113.Result false)))))))) j3.1).bind fun v119=>(idx a1.To s88.1).bind fun v121=>(idx ((List.set s88.2.2 (Int.toNat j3.1) ((zca.mk v111.Id v111.Mail v111.Since v111.Tries v111.Due ((List.set v111.To (Int.toNat v105) ((zga.mk v113.Recipient v113.Result false)))))))) j3.1).bind fun v123=>(idx v123.To v121).bind fun v125=>(idx ((List.set s88.2.2 (Int.toNat j3.1) ((zca.mk v111.Id v111.Mail v111.Since v111.Tries v111.Due ((List.set v111.To (Int.toNat v105) ((zga.mk v113.Recipient v113.Result false)))))))) j3.1).bind fun v127=>(idx v127.To v121).bind fun v129=>(bif (j95 !=0) then (idx a1.To s88.1).bind fun v132=>(app 5864062014805 s88.2.1 (([(zla.mk a1.Entry v132 j95)]:List zla))).bind fun v134=>some ((v134,(List.set ((List.set s88.2.2 (Int.toNat j3.1) ((zca.mk v111.Id v111.Mail v111.Since v111.Tries v111.Due ((List.set v111.To (Int.toNat v105) ((zga.mk v113.Recipient v113.Result false)))))))) (Int.toNat j3.1) ((zca.mk v127.Id v127.Mail v127.Since v127.Tries v127.Due ((List.set v127.To (Int.toNat v121) ((zga.mk v129.Recipient j95 v129.Busy))))))))) else some ((s88.2.1,(List.set ((List.set s88.2.2 (Int.toNat j3.1) ((zca.mk v111.Id v111.Mail v111.Since v111.Tries v111.Due ((List.set v111.To (Int.toNat v105) ((zga.mk v113.Recipient v113.Result false)))))))) (Int.toNat j3.1) ((zca.mk v127.Id v127.Mail v127.Since v127.Tries v127.Due ((List.set v127.To (Int.toNat v121) ((zga.mk v129.Recipient j95 v129.Busy)))))))))):Option ((List zla) × (List zca))).bind fun (j92:(List zla) × (List zca))=>some (.cont ((w64 (s88.1+1)),j92.1,j92.2)) else some (.out ((s88.2.1,s88.2.2))))
def via(a0:List zla)(a1:List zla)(s2:Int):Option (Step Int (Unit ⊕ Bool)):=
 (bif decide (s2 < (a0.length:Int)) then (idx a0 s2).bind fun v8=>(idx a1 s2).bind fun v10=>(bif (!(qta [(v8.Entry==v10.Entry),(v8.Number==v10.Number),(v8.Result==v10.Result)])) then some (.out (.inr false)) else some (.cont (w64 (s2+1)))) else some (.out (.inl (()))))
noncomputable def vua(a0:List zla)(a1:List zla):Option Bool:=
 (bif ((a0.length:Int) !=(a1.length:Int)) then some false else (iter (via a0 a1) 0).bind (Sum.elim (fun b3=>some true) (fun b4=>some b4)))
def wSa(a0:kha):Option Bool:=
 ((bif (a0.Envelope.From==([]:Str)) then (bif (a0.Envelope.Id==([]:Str)) then some (((w64 ((w64 ((a0.Envelope.To.length:Int)+(a0.Message.Fields.length:Int)))+(a0.Message.Body.length:Int)))==0)) else some false) else some false):Option Bool).bind fun (j1:Bool)=>some j1
def wTa(a0:zfa):Option Bool:=
 (bif (a0.Kind==2) then (wSa a0.Mail).bind fun v2=>some v2 else ((bif (a0.Attempt.Entry==0) then (bif (a0.Attempt.Domain==([]:Str)) then some (((w64 ((a0.Attempt.To.length:Int)+(a0.Results.length:Int)))==0)) else some false) else some false):Option Bool).bind fun (j4:Bool)=>some j4)
def qYa(a0:zfa)(s16:Int):Option (Step Int (Unit ⊕ zsa)):=
 (bif decide (s16 < (a0.Attempt.To.length:Int)) then (idx a0.Attempt.To s16).bind fun v22=>((bif decide (v22 < 0) then some true else (bif decide (60<=v22) then some true else (bif decide (0 < s16) then (idx a0.Attempt.To ((w64 (s16 - 1)))).bind fun v28=>some (decide (v22<=v28)) else some false))):Option Bool).bind fun (j24:Bool)=>(bif j24 then (zoa 3 ((-4))).bind fun v31=>some (.out (.inr v31)) else some (.cont (w64 (s16+1)))) else some (.out (.inl (()))))
def wja(a0:zfa)(s37:Int):Option (Step Int (Unit ⊕ Int)):=
 (bif decide (s37 < (a0.Results.length:Int)) then (idx a0.Results s37).bind fun v43=>((bif decide (v43 < 1) then some true else some (decide (4 < v43))):Option Bool).bind fun (j45:Bool)=>(bif j45 then some (.out (.inr s37)) else some (.cont (w64 (s37+1)))) else some (.out (.inl (()))))
noncomputable def jca(a0:zfa):Option zsa:=
 ((bif decide (a0.Attempt.Entry < 0) then some true else some (decide (1000000 < a0.Attempt.Entry))):Option Bool).bind fun (j1:Bool)=>(bif j1 then (zoa 3 ((-3))).bind fun v4=>some v4 else (qMa a0.Attempt.Domain).bind fun v6=>(bif (!v6) then (zoa 10 ((-4))).bind fun v9=>some v9 else ((bif decide ((a0.Attempt.To.length:Int) < 1) then some true else some (decide (60 < (a0.Attempt.To.length:Int)))):Option Bool).bind fun (j11:Bool)=>(bif j11 then (zoa 2 ((-4))).bind fun v14=>some v14 else (iter (qYa a0) 0).bind (Sum.elim (fun b17=>(bif ((a0.Results.length:Int) !=(a0.Attempt.To.length:Int)) then (zoa 9 ((-5))).bind fun v34=>some v34 else ((iter (wja a0) 0).bind (Sum.elim (fun b38=>some ((-1))) (fun b39=>some b39)):Option Int).bind fun (j36:Int)=>(bif decide (0<=j36) then (zoa 3 ((-5))).bind fun v49=>some v49 else (kma).bind fun v51=>some v51))) (fun b18=>some b18)))))
noncomputable def vva(a0:zfa):Option zsa:=
 ((bif (a0.Kind !=1) then some ((a0.Kind !=2)) else some false):Option Bool).bind fun (j1:Bool)=>(bif j1 then (zoa 4 ((-2))).bind fun v4=>some v4 else (qLa a0.Now).bind fun v6=>(bif (!v6) then (zoa 3 ((-7))).bind fun v9=>some v9 else (wTa a0).bind fun v11=>(bif (!v11) then (zoa 5 ((-8))).bind fun v14=>some v14 else (bif (a0.Kind==2) then (jca a0).bind fun v17=>some v17 else (qCa a0.Mail).bind fun v19=>(z0a v19).bind fun v21=>(bif v21 then (zoa v19.Code ((-6))).bind fun v24=>some v24 else (kma).bind fun v26=>some v26)))))
def kaa(a1:Int)(s1:Int × zma):Option (Step (Int × zma) zma):=
 (bif decide (s1.1 < 8) then (nng ((w64 (8 * s1.1)))).bind fun v5=>(app 140737488355328 s1.2.out (([(toU8 ((uShr ((wu64 a1)) ((w64 (8 * s1.1))))))]:List UInt8))).bind fun v7=>some (.cont ((w64 (s1.1+1)),(zma.mk v7))) else some (.out s1.2))
noncomputable def zKa(a0:zma)(a1:Int):Option zma:=
 (iter (kaa a1) ((0,a0))).bind fun b2=>some b2
noncomputable def z1a(a0:zma)(a1:Str):Option zma:=
 (zKa a0 ((a1.length:Int))).bind fun v1=>(app 140737488355328 v1.out a1).bind fun v3=>some ((zma.mk v3))
noncomputable def wka(a0:zfa)(s10:Int × zma):Option (Step (Int × zma) zma):=
 (bif decide (s10.1 < (a0.Mail.Envelope.To.length:Int)) then (idx a0.Mail.Envelope.To s10.1).bind fun v14=>(z1a s10.2 v14.Address).bind fun v16=>(zKa v16 v14.Notify).bind fun v18=>some (.cont ((w64 (s10.1+1)),v18)) else some (.out s10.2))
noncomputable def wla(a0:zfa)(s24:Int × zma):Option (Step (Int × zma) zma):=
 (bif decide (s24.1 < (a0.Mail.Message.Fields.length:Int)) then (idx a0.Mail.Message.Fields s24.1).bind fun v28=>(z1a s24.2 v28.Name).bind fun v30=>(z1a v30 v28.Value).bind fun v32=>some (.cont ((w64 (s24.1+1)),v32)) else some (.out s24.2))
def jGa(v46:Int)(s48:Int × zma):Option (Step (Int × zma) zma):=
 (bif decide (s48.1 < 8) then (nng ((w64 (8 * s48.1)))).bind fun v52=>(app 140737488355328 s48.2.out (([(toU8 ((uShr ((wu64 v46)) ((w64 (8 * s48.1))))))]:List UInt8))).bind fun v54=>some (.cont ((w64 (s48.1+1)),(zma.mk v54))) else some (.out s48.2))
noncomputable def wma(a0:zfa)(s42:Int × zma):Option (Step (Int × zma) zma):=
 (bif decide (s42.1 < (a0.Attempt.To.length:Int)) then (idx a0.Attempt.To s42.1).bind fun v46=>(iter (jGa v46) ((0,s42.2))).bind fun b49=>some (.cont ((w64 (s42.1+1)),b49)) else some (.out s42.2))
def jHa(v62:Int)(s64:Int × zma):Option (Step (Int × zma) zma):=
 (bif decide (s64.1 < 8) then (nng ((w64 (8 * s64.1)))).bind fun v68=>(app 140737488355328 s64.2.out (([(toU8 ((uShr ((wu64 v62)) ((w64 (8 * s64.1))))))]:List UInt8))).bind fun v70=>some (.cont ((w64 (s64.1+1)),(zma.mk v70))) else some (.out s64.2))
noncomputable def wna(a0:zfa)(s58:Int × zma):Option (Step (Int × zma) zma):=
 (bif decide (s58.1 < (a0.Results.length:Int)) then (idx a0.Results s58.1).bind fun v62=>(iter (jHa v62) ((0,s58.2))).bind fun b65=>some (.cont ((w64 (s58.1+1)),b65)) else some (.out s58.2))
noncomputable def jda(a0:zfa):Option (List UInt8):=
 (zKa ((zma.mk (([]:List UInt8)))) a0.Kind).bind fun v1=>(zKa v1 a0.Now).bind fun v3=>(bif (a0.Kind==1) then (z1a v3 a0.Mail.Envelope.From).bind fun v6=>(zKa v6 ((a0.Mail.Envelope.To.length:Int))).bind fun v8=>(iter (wka a0) ((0,v8))).bind fun b11=>(z1a b11 a0.Mail.Envelope.Id).bind fun v20=>(zKa v20 ((a0.Mail.Message.Fields.length:Int))).bind fun v22=>(iter (wla a0) ((0,v22))).bind fun b25=>(z1a b25 a0.Mail.Message.Body).bind fun v34=>some v34.out else (zKa v3 a0.Attempt.Entry).bind fun v36=>(z1a v36 a0.Attempt.Domain).bind fun v38=>(zKa v38 ((a0.Attempt.To.length:Int))).bind fun v40=>(iter (wma a0) ((0,v40))).bind fun b43=>(zKa b43 ((a0.Results.length:Int))).bind fun v56=>(iter (wna a0) ((0,v56))).bind fun b59=>some b59.out)
def wUa(a0:List UInt8)(s1:Int × Int):Option (Step (Int × Int) Int):=
 (bif decide (s1.2 < (a0.length:Int)) then (idx a0 s1.2).bind fun v5=>some (.cont ((wu64 ((uXor s1.1 ((v5.toNat:Int))) * 1099511628211)),(w64 (s1.2+1)))) else some (.out s1.1))
noncomputable def Zha(a0:List UInt8):Option Int:=
 (iter (wUa a0) ((14695981039346656037,0))).bind fun b2=>some b2
noncomputable def v3a(a0:zfa):Option (List UInt8):=
 (jda a0).bind fun v1=>(z1a ((zma.mk (([]:List UInt8)))) v1).bind fun v3=>(Zha v1).bind fun v5=>(zKa v3 ((w64 v5))).bind fun v7=>some v7.out
noncomputable def qxa(a0:List UInt8)(a1:zfa):Option ((List UInt8) × zsa):=
 (bif decide (200000 < (a0.length:Int)) then (zoa 1 ((-1))).bind fun v2=>some (([],v2)) else (vva a1).bind fun v4=>(z0a v4).bind fun v6=>(bif v6 then some (([],v4)) else (v3a a1).bind fun v9=>(kPa (([a0,v9]:List (List UInt8)))).bind fun v11=>(bif decide (200000 < (v11.length:Int)) then (zoa 1 ((-9))).bind fun v14=>some (([],v14)) else (kma).bind fun v16=>some ((v11,v16)))))
def kAa(a0:zha)(s2:Int × Int):Option (Step (Int × Int) Int):=
 (bif decide (s2.2 < 8) then (idx a0.b s2.2).bind fun v6=>(nng ((w64 (8 * s2.2)))).bind fun v8=>some (.cont ((uOr s2.1 ((uShl ((v6.toNat:Int)) ((w64 (8 * s2.2)))))),(w64 (s2.2+1)))) else some (.out s2.1))
noncomputable def zCa(a0:zha):Option (Int × zha):=
 (bif decide ((a0.b.length:Int) < 8) then some ((0,(zha.mk ([]) true))) else (iter (kAa a0) ((0,0))).bind fun b3=>(cut a0.b 8 ((a0.b.length:Int))).bind fun v10=>some (((w64 b3),(zha.mk v10 a0.bad))))
noncomputable def z2a(a0:zha):Option (Str × zha):=
 (zCa a0).bind fun v1=>((bif decide (v1.1 < 0) then some true else some (decide ((v1.2.b.length:Int) < v1.1))):Option Bool).bind fun (j3:Bool)=>(bif j3 then some ((([]:Str),(zha.mk ([]) true))) else (cut v1.2.b 0 v1.1).bind fun v6=>(cut v1.2.b v1.1 ((v1.2.b.length:Int))).bind fun v8=>some ((v6,(zha.mk v8 v1.2.bad))))
noncomputable def qZa(v9:Int × zha)(s11:Int × zha × (List zba)):Option (Step (Int × zha × (List zba)) (zha × (List zba))):=
 ((bif decide (s11.1 < v9.1) then some ((!s11.2.1.bad)) else some false):Option Bool).bind fun (j14:Bool)=>(bif j14 then (z2a s11.2.1).bind fun v17=>(zCa v17.2).bind fun v19=>(app 5864062014805 s11.2.2 (([(zba.mk v17.1 v19.1)]:List zba))).bind fun v21=>some (.cont ((w64 (s11.1+1)),v19.2,v21)) else some (.out ((s11.2.1,s11.2.2))))
noncomputable def q0a(v25:Int × zha)(s27:Int × zha × (List zka)):Option (Step (Int × zha × (List zka)) (zha × (List zka))):=
 ((bif decide (s27.1 < v25.1) then some ((!s27.2.1.bad)) else some false):Option Bool).bind fun (j30:Bool)=>(bif j30 then (z2a s27.2.1).bind fun v33=>(z2a v33.2).bind fun v35=>(app 4398046511104 s27.2.2 (([(zka.mk v33.1 v35.1)]:List zka))).bind fun v37=>some (.cont ((w64 (s27.1+1)),v35.2,v37)) else some (.out ((s27.2.1,s27.2.2))))
def jIa(s47:Int × zha × (List Int))(s55:Int × Int):Option (Step (Int × Int) Int):=
 (bif decide (s55.2 < 8) then (idx s47.2.1.b s55.2).bind fun v59=>(nng ((w64 (8 * s55.2)))).bind fun v61=>some (.cont ((uOr s55.1 ((uShl ((v59.toNat:Int)) ((w64 (8 * s55.2)))))),(w64 (s55.2+1)))) else some (.out s55.1))
noncomputable def q1a(v45:Int × zha)(s47:Int × zha × (List Int)):Option (Step (Int × zha × (List Int)) (zha × (List Int))):=
 ((bif decide (s47.1 < v45.1) then some ((!s47.2.1.bad)) else some false):Option Bool).bind fun (j50:Bool)=>(bif j50 then ((bif decide ((s47.2.1.b.length:Int) < 8) then some ((0,(zha.mk ([]) true))) else (iter (jIa s47) ((0,0))).bind fun b56=>(cut s47.2.1.b 8 ((s47.2.1.b.length:Int))).bind fun v63=>some (((w64 b56),(zha.mk v63 s47.2.1.bad)))):Option (Int × zha)).bind fun (j53:Int × zha)=>(app 17592186044416 s47.2.2 (([j53.1]:List Int))).bind fun v65=>some (.cont ((w64 (s47.1+1)),j53.2,v65)) else some (.out ((s47.2.1,s47.2.2))))
def KHa(s69:Int × zha × (List Int))(s77:Int × Int):Option (Step (Int × Int) Int):=
 (bif decide (s77.2 < 8) then (idx s69.2.1.b s77.2).bind fun v81=>(nng ((w64 (8 * s77.2)))).bind fun v83=>some (.cont ((uOr s77.1 ((uShl ((v81.toNat:Int)) ((w64 (8 * s77.2)))))),(w64 (s77.2+1)))) else some (.out s77.1))
noncomputable def jJa(v67:Int × zha)(s69:Int × zha × (List Int)):Option (Step (Int × zha × (List Int)) (zha × (List Int))):=
 ((bif decide (s69.1 < v67.1) then some ((!s69.2.1.bad)) else some false):Option Bool).bind fun (j72:Bool)=>(bif j72 then ((bif decide ((s69.2.1.b.length:Int) < 8) then some ((0,(zha.mk ([]) true))) else (iter (KHa s69) ((0,0))).bind fun b78=>(cut s69.2.1.b 8 ((s69.2.1.b.length:Int))).bind fun v85=>some (((w64 b78),(zha.mk v85 s69.2.1.bad)))):Option (Int × zha)).bind fun (j75:Int × zha)=>(app 17592186044416 s69.2.2 (([j75.1]:List Int))).bind fun v87=>some (.cont ((w64 (s69.1+1)),j75.2,v87)) else some (.out ((s69.2.1,s69.2.2))))
noncomputable def jea(a0:List UInt8):Option (zfa × Bool):=
 (zCa ((zha.mk a0 false))).bind fun v1=>(zCa v1.2).bind fun v3=>((bif (v1.1==1) then (z2a v3.2).bind fun v7=>(zCa v7.2).bind fun v9=>(iter (qZa v9) ((0,v9.2,([]:List zba)))).bind fun b12=>(z2a b12.1).bind fun v23=>(zCa v23.2).bind fun v25=>(iter (q0a v25) ((0,v25.2,([]:List zka)))).bind fun b28=>(z2a b28.1).bind fun v39=>some ((v39.2,(zfa.mk v1.1 v3.1 ((kha.mk ((zOa.mk v7.1 b12.2 v23.1)) ((zIa.mk b28.2 v39.1)))) ((zwa.mk 0 (([]:Str)) ([]))) ([])))) else (zCa v3.2).bind fun v41=>(z2a v41.2).bind fun v43=>(zCa v43.2).bind fun v45=>(iter (q1a v45) ((0,v45.2,([]:List Int)))).bind fun b48=>(zCa b48.1).bind fun v67=>(iter (jJa v67) ((0,v67.2,([]:List Int)))).bind fun b70=>some ((b70.1,(zfa.mk v1.1 v3.1 ((kha.mk ((zOa.mk (([]:Str)) ([]) (([]:Str)))) ((zIa.mk ([]) ([]))))) ((zwa.mk v41.1 v43.1 b48.2)) b70.2)))):Option (zha × zfa)).bind fun (j5:zha × zfa)=>((bif (!j5.1.bad) then (bif ((j5.1.b.length:Int)==0) then (vva j5.2).bind fun v92=>(z0a v92).bind fun v94=>some ((!v94)) else some false) else some false):Option Bool).bind fun (j89:Bool)=>some ((j5.2,j89))
noncomputable def q2a(a0:List UInt8)(s5:Int × Int × (List zfa)):Option (Step (Int × Int × (List zfa)) ((Int × (List zfa)) ⊕ (Int × (List zfa)))):=
 (cut a0 s5.1 ((a0.length:Int))).bind fun v10=>(z2a ((zha.mk v10 false))).bind fun v12=>(zCa v12.2).bind fun v14=>(bif v14.2.bad then some (.out (.inl ((s5.2.1,s5.2.2)))) else (jea v12.1).bind fun v17=>(v3a v17.1).bind fun v19=>((bif (!v17.2) then some true else (cut a0 s5.1 ((a0.length:Int))).bind fun v23=>(qka v23 v19).bind fun v25=>some ((!v25))):Option Bool).bind fun (j21:Bool)=>(bif j21 then some (.out (.inl ((s5.2.1,s5.2.2)))) else (app 733007751850 s5.2.2 (([v17.1]:List zfa))).bind fun v28=>(bif ((v28.length:Int)==100) then some (.out (.inr (((w64 (s5.1+(v19.length:Int))),v28)))) else some (.cont ((w64 (s5.1+(v19.length:Int))),(w64 (s5.1+(v19.length:Int))),v28)))))
noncomputable def wBa(a0:List UInt8):Option ((List zfa) × Int × zsa):=
 (bif decide (200000 < (a0.length:Int)) then (zoa 1 ((-1))).bind fun v2=>some (([],0,v2)) else ((iter (q2a a0) ((0,0,([]:List zfa)))).bind (Sum.elim (fun b6=>some ((b6.1,b6.2))) (fun b7=>some ((b7.1,b7.2)))):Option (Int × (List zfa))).bind fun (j4:Int × (List zfa))=>(kma).bind fun v31=>some ((j4.2,j4.1,v31)))
noncomputable def vwa(a0:List zfa)(s4:Int):Option (Step Int (Unit ⊕ (zva × (List zla) × zsa))):=
 (bif decide (s4 < (a0.length:Int)) then (idx a0 s4).bind fun v10=>(vva v10).bind fun v12=>(z0a v12).bind fun v14=>(bif v14 then (zoa v12.Code s4).bind fun v17=>some (.out (.inr (((zva.mk ([]) 0),[],v17)))) else some (.cont (w64 (s4+1)))) else some (.out (.inl (()))))
noncomputable def qPa(a0:List zfa)(s19:Int × (List zla) × (List zca) × Int):Option (Step (Int × (List zla) × (List zca) × Int) (((List zla) × (List zca) × Int) ⊕ (zva × (List zla) × zsa))):=
 (bif decide (s19.1 < (a0.length:Int)) then (idx a0 s19.1).bind fun v25=>((bif (v25.Kind==1) then (Zga ((zva.mk s19.2.2.1 s19.2.2.2)) v25.Mail v25.Now).bind fun v29=>some ((v29.2.2.Code,v29.2.2.Index,s19.2.1,v29.1.Entries,v29.1.Next)) else (y9a ((zva.mk s19.2.2.1 s19.2.2.2)) v25.Attempt).bind fun v31=>(z0a v31.2).bind fun v33=>(bif (!v33) then (jba v31.1 v25.Attempt v25.Results v25.Now).bind fun v36=>(app 5864062014805 s19.2.1 v36.2.1).bind fun v38=>some ((v36.2.2.Code,v36.2.2.Index,v38,v36.1.Entries,v36.1.Next)) else some ((v31.2.Code,v31.2.Index,s19.2.1,v31.1.Entries,v31.1.Next)))):Option (Int × Int × (List zla) × (List zca) × Int)).bind fun (j27:Int × Int × (List zla) × (List zca) × Int)=>(z0a ((zsa.mk j27.1 j27.2.1))).bind fun v40=>(bif v40 then (zoa j27.1 s19.1).bind fun v43=>some (.out (.inr (((zva.mk ([]) 0),[],v43)))) else some (.cont ((w64 (s19.1+1)),j27.2.2.1,j27.2.2.2.1,j27.2.2.2.2))) else some (.out (.inl ((s19.2.1,s19.2.2.1,s19.2.2.2)))))
noncomputable def v4a(a0:List zfa):Option (zva × (List zla) × zsa):=
 (bif decide (100 < (a0.length:Int)) then (zoa 2 ((-1))).bind fun v2=>some (((zva.mk ([]) 0),[],v2)) else (iter (vwa a0) 0).bind (Sum.elim (fun b5=>(iter (qPa a0) ((0,([]:List zla),[],0))).bind (Sum.elim (fun b20=>(kma).bind fun v45=>some (((zva.mk b20.2.1 b20.2.2),b20.1,v45))) (fun b21=>some ((b21.1,b21.2.1,b21.2.2))))) (fun b6=>some ((b6.1,b6.2.1,b6.2.2)))))
noncomputable def jfa:Option Bool:=
 (KFa (([([97,64,121]:Str)]:List Str))).bind fun v1=>(qxa ([]) ((zfa.mk 1 0 v1 ((zwa.mk 0 (([]:Str)) ([]))) ([])))).bind fun v3=>(wBa v3.1).bind fun v5=>(v4a (([(zfa.mk 1 0 v1 ((zwa.mk 0 (([]:Str)) ([]))) ([])),(zfa.mk 2 5 ((kha.mk ((zOa.mk (([]:Str)) ([]) (([]:Str)))) ((zIa.mk ([]) ([]))))) ((zwa.mk 0 (([121]:Str)) (([0]:List Int)))) (([1]:List Int)))]:List zfa))).bind fun v7=>(qxa ([]) ((zfa.mk 0 0 ((kha.mk ((zOa.mk (([]:Str)) ([]) (([]:Str)))) ((zIa.mk ([]) ([]))))) ((zwa.mk 0 (([]:Str)) ([]))) ([])))).bind fun v9=>((bif (v3.2.Code==0) then (bif (v5.2.2.Code==0) then (bif (v7.2.2.Code==0) then (R_At 4 ((-2))).bind fun v15=>(bif (qta [(v9.2.Code==v15.Code),(v9.2.Index==v15.Index)]) then (bif decide (16 < (v3.1.length:Int)) then (bif (v5.2.1==(v3.1.length:Int)) then (bif ((v5.1.length:Int)==1) then (bif ((v7.1.Entries.length:Int)==0) then (bif (v7.1.Next==1) then (vua v7.2.1 (([(zla.mk 0 0 1)]:List zla))).bind fun v23=>some v23 else some false) else some false) else some false) else some false) else some false) else some false) else some false) else some false) else some false):Option Bool).bind fun (j11:Bool)=>some j11
def qRa(s1:Int × Int × (List UInt8)):Option (Step (Int × Int × (List UInt8)) (List UInt8)):=
 (bif decide (s1.2.1 < 8) then (app 140737488355328 s1.2.2 (([(toU8 ((uRem s1.1 256)))]:List UInt8))).bind fun v5=>some (.cont ((uQuo s1.1 256),(w64 (s1.2.1+1)),v5)) else some (.out s1.2.2))
noncomputable def k9a(a0:List UInt8)(a1:Int):Option (List UInt8):=
 (iter (qRa) (((wu64 a1),0,a0))).bind fun b2=>some b2
noncomputable def woa(a0:List UInt8)(a1:Str):Option (List UInt8):=
 (k9a a0 ((a1.length:Int))).bind fun v1=>(app 140737488355328 v1 a1).bind fun v3=>some v3
noncomputable def wpa(a1:List Int)(s3:Int × (List UInt8)):Option (Step (Int × (List UInt8)) (List UInt8)):=
 (bif decide (s3.1 < (a1.length:Int)) then (idx a1 s3.1).bind fun v7=>(k9a s3.2 v7).bind fun v9=>some (.cont ((w64 (s3.1+1)),v9)) else some (.out s3.2))
noncomputable def yda(a0:List UInt8)(a1:List Int):Option (List UInt8):=
 (k9a a0 ((a1.length:Int))).bind fun v1=>(iter (wpa a1) ((0,v1))).bind fun b4=>some b4
def ZYa(a0:List UInt8)(s1:Int × Int):Option (Step (Int × Int) Int):=
 (bif decide (s1.2 < (a0.length:Int)) then (idx a0 s1.2).bind fun v5=>some (.cont ((wu64 ((uXor s1.1 ((v5.toNat:Int))) * 1099511628211)),(w64 (s1.2+1)))) else some (.out s1.1))
noncomputable def jKa(a0:List UInt8):Option Int:=
 (iter (ZYa a0) ((14695981039346656037,0))).bind fun b2=>some b2
noncomputable def qia(a0:zfa)(s11:Int × (List UInt8)):Option (Step (Int × (List UInt8)) (List UInt8)):=
 (bif decide (s11.1 < (a0.Mail.Envelope.To.length:Int)) then (idx a0.Mail.Envelope.To s11.1).bind fun v15=>(woa s11.2 v15.Address).bind fun v17=>(idx a0.Mail.Envelope.To s11.1).bind fun v19=>(k9a v17 v19.Notify).bind fun v21=>some (.cont ((w64 (s11.1+1)),v21)) else some (.out s11.2))
noncomputable def qja(a0:zfa)(s27:Int × (List UInt8)):Option (Step (Int × (List UInt8)) (List UInt8)):=
 (bif decide (s27.1 < (a0.Mail.Message.Fields.length:Int)) then (idx a0.Mail.Message.Fields s27.1).bind fun v31=>(woa s27.2 v31.Name).bind fun v33=>(idx a0.Mail.Message.Fields s27.1).bind fun v35=>(woa v33 v35.Value).bind fun v37=>some (.cont ((w64 (s27.1+1)),v37)) else some (.out s27.2))
noncomputable def vNa(a0:zfa):Option (List UInt8):=
 (k9a (([]:List UInt8)) a0.Kind).bind fun v1=>(k9a v1 a0.Now).bind fun v3=>((bif (a0.Kind==1) then (woa v3 a0.Mail.Envelope.From).bind fun v7=>(k9a v7 ((a0.Mail.Envelope.To.length:Int))).bind fun v9=>(iter (qia a0) ((0,v9))).bind fun b12=>(woa b12 a0.Mail.Envelope.Id).bind fun v23=>(k9a v23 ((a0.Mail.Message.Fields.length:Int))).bind fun v25=>(iter (qja a0) ((0,v25))).bind fun b28=>(woa b28 a0.Mail.Message.Body).bind fun v39=>some v39 else (k9a v3 a0.Attempt.Entry).bind fun v41=>(woa v41 a0.Attempt.Domain).bind fun v43=>(yda v43 a0.Attempt.To).bind fun v45=>(yda v45 a0.Results).bind fun v47=>some v47):Option (List UInt8)).bind fun (j5:List UInt8)=>(woa (([]:List UInt8)) j5).bind fun v49=>(jKa j5).bind fun v51=>(k9a v49 ((w64 v51))).bind fun v53=>some v53
noncomputable def wqa(a0:zfa)(a1:zfa):Option Bool:=
 ((bif (a0.Kind==a1.Kind) then (bif (a0.Now==a1.Now) then (y8a a0.Mail a1.Mail).bind fun v4=>(bif v4 then (bif (a0.Attempt.Entry==a1.Attempt.Entry) then (bif (a0.Attempt.Domain==a1.Attempt.Domain) then (W8a a0.Attempt.To a1.Attempt.To).bind fun v9=>(bif v9 then (W8a a0.Results a1.Results).bind fun v12=>some v12 else some false) else some false) else some false) else some false) else some false) else some false):Option Bool).bind fun (j1:Bool)=>some j1
noncomputable def vHa(a0:List zfa)(a1:List zfa)(s2:Int):Option (Step Int (Unit ⊕ Bool)):=
 (bif decide (s2 < (a0.length:Int)) then (idx a0 s2).bind fun v8=>(idx a1 s2).bind fun v10=>(wqa v8 v10).bind fun v12=>(bif (!v12) then some (.out (.inr false)) else some (.cont (w64 (s2+1)))) else some (.out (.inl (()))))
noncomputable def vOa(a0:List zfa)(a1:List zfa):Option Bool:=
 (bif ((a0.length:Int) !=(a1.length:Int)) then some false else (iter (vHa a0 a1) 0).bind (Sum.elim (fun b3=>some true) (fun b4=>some b4)))
noncomputable def vIa(a0:List zfa)(s1:(List UInt8) × Int):Option (Step ((List UInt8) × Int) ((List UInt8) ⊕ ((List UInt8) × Bool))):=
 (bif decide (s1.2 < (a0.length:Int)) then (idx a0 s1.2).bind fun v7=>(qxa s1.1 v7).bind fun v9=>(bif (v9.2.Code !=0) then some (.out (.inr (([],false)))) else some (.cont (v9.1,(w64 (s1.2+1))))) else some (.out (.inl s1.1)))
noncomputable def jga(a0:List zfa):Option ((List UInt8) × Bool):=
 (iter (vIa a0) (([],0))).bind (Sum.elim (fun b2=>some ((b2,true))) (fun b3=>some ((b3.1,b3.2))))
noncomputable def qda(a0:List zfa)(a1:Int)(a2:Int):Option Bool:=
 (jga a0).bind fun v1=>((jfa).bind fun v4=>(bif (!v4) then some true else (bif (!v1.2) then some true else (R_In ((a0.length:Int)) 1 20).bind fun v8=>(bif (!v8) then some true else (R_In a2 1 255).bind fun v11=>some ((!v11))))):Option Bool).bind fun (j3:Bool)=>(bif j3 then (jfa).bind fun v14=>some v14 else (idx a0 ((w64 ((a0.length:Int) - 1)))).bind fun v16=>(vNa v16).bind fun v18=>((R_In a1 8 ((w64 ((v18.length:Int) - 9)))).bind fun v21=>(bif (!v21) then some true else some (decide ((v1.1.length:Int) < (v18.length:Int)))):Option Bool).bind fun (j20:Bool)=>(bif j20 then some (decide ((v18.length:Int)<=(v1.1.length:Int))) else (app 140737488355328 (([]:List UInt8)) v1.1).bind fun v25=>(idx v25 ((w64 ((w64 ((v1.1.length:Int) - (v18.length:Int)))+a1)))).bind fun v27=>(idx v25 ((w64 ((w64 ((v1.1.length:Int) - (v18.length:Int)))+a1)))).bind fun v29=>(idx v25 ((w64 ((w64 ((v1.1.length:Int) - (v18.length:Int)))+a1)))).bind fun v31=>(idx v25 ((w64 ((w64 ((v1.1.length:Int) - (v18.length:Int)))+a1)))).bind fun v33=>(wBa ((List.set v25 (Int.toNat ((w64 ((w64 ((v1.1.length:Int) - (v18.length:Int)))+a1)))) ((toU8 ((iRem ((w64 ((v29.toNat:Int)+a2))) 256))))))).bind fun v35=>((bif (v35.2.2.Code==0) then (bif (v35.2.1==(w64 ((v1.1.length:Int) - (v18.length:Int)))) then (cut a0 0 ((w64 ((a0.length:Int) - 1)))).bind fun v40=>(vOa v35.1 v40).bind fun v42=>some v42 else some false) else some false):Option Bool).bind fun (j37:Bool)=>some j37))
section
theorem zcb(a b:Nat)(h:a+b<=9223372036854775807):w64 ((a:Int)+(b:Int))=((a+b:Nat):Int):=by
 rw[vga (by omega) (by omega)];simp
theorem vUb(a b:Nat)(h:b<=a)(ha:a<=9223372036854775807):w64 ((a:Int) - (b:Int))=((a - b:Nat):Int):=by
 rw[vga (by omega) (by omega)];omega
theorem qxb(a:Nat)(h:a<=9223372036854775807):w64 (a:Int)=(a:Int):=vga (by omega) (by omega)
theorem VZa(c:UInt8)(k:Nat)(hk:OfNat.ofNat k < 256):((c.toNat:Int)==no_index (OfNat.ofNat k:Int))=(c==OfNat.ofNat k):=by
 have e:(OfNat.ofNat k:Int)=((OfNat.ofNat k:Nat):Int):=rfl;have h2:(OfNat.ofNat k:UInt8).toNat=(OfNat.ofNat k:Nat):=by
  show (UInt8.ofNat k).toNat=k;rw[jCt];exact jDc hk
 rw[jAz,beq_iff_eq,beq_iff_eq,<-UInt8.toNat_inj,h2,e];omega
theorem u8_ne(c:UInt8)(k:Nat)(hk:OfNat.ofNat k < 256):((c.toNat:Int) !=no_index (OfNat.ofNat k:Int))=(c !=OfNat.ofNat k):=by
 unfold bne;rw[VZa c k hk]
section
variable {α:Type}
theorem Qua(l:List α)(i:Nat):idx l (i:Int)=l[i]? :=by unfold idx;rw[if_pos (by omega)];simp
theorem vVb{l:List α}{i:Nat}(h:i < l.length):idx l (i:Int)=some l[i]:=by rw[Qua];exact jAi h
theorem cut_nn{l:List α}{a b:Nat}(h1:a<=b)(h2:b<=l.length):cut l (a:Int) (b:Int)=some ((l.drop a).take (b - a)):=by
 unfold cut;rw[if_pos (by omega)];simp
theorem V0a{l:List α}{a:Nat}(h1:a<=l.length):cut l (a:Int) (l.length:Int)=some (l.drop a):=by
 rw[cut_nn h1 (jBc _)];rw[List.take_of_length_le (by simp)]
theorem QOa{l:List α}{b:Nat}(h2:b<=l.length):cut l 0 (b:Int)=some (l.take b):=by
 have:=cut_nn (l:=l) (a:=0) (b:=b) (by omega) h2;simpa using this
theorem vxa{lim:Nat}{l xs:List α}(h:l.length+xs.length<=lim):app lim l xs=some (l++xs):=by unfold app;rw[if_pos h]
theorem cat_ok{a b:Str}(h:a.length+b.length<=9223372036854775807):cat a b=some (a++b):=by unfold cat;rw[if_pos h]
end
section
variable {A R:Type} {body:A->Option (Step A R)}
theorem Y3a(Inv:A->Prop)(m:A->Nat)(Post:A->R->Prop)
 (h:∀s,Inv s->(∃r,body s=some (.out r)/\Post s r)∨∃s',body s=some (.cont s')/\Inv s' /\m s' < m s/\∀r,Post s' r->Post s r):
 ∀s,Inv s->∃r,iter body s=some r/\Post s r:=by
 intro s;induction hn:m s using Nat.strongRecOn generalizing s with
 | _ n ih=>
  intro hi;rcases h s hi with ⟨r,h1,h2⟩ | ⟨s',h1,h2,h3,h4⟩
  .exact ⟨r,zUa h1,h2⟩
  obtain ⟨r,h5,h6⟩:=ih (m s') (by omega) s' rfl h2;exact ⟨r,(z3a h1).trans h5,h4 r h6⟩
theorem KIa{α S:Type}(l:List α)(enc:Nat->S->A)(spec:Nat->List α->S->R)
 (h0:∀s,body (enc l.length s)=some (.out (spec l.length [] s)))
 (h1:∀p x r s,l=p++x::r->(body (enc p.length s)=some (.out (spec p.length (x::r) s)))∨∃s',body (enc p.length s)=some (.cont (enc (p.length+1) s'))/\spec p.length (x::r) s=spec (p.length+1) r s'):
 ∀{s0:A} (s:S) (_:s0=enc 0 s),iter body s0=some (spec 0 l s):=by
 have key:∀r p s,l=p++r->iter body (enc p.length s)=some (spec p.length r s):=by
  intro r;induction r with
  | nil=>
   intro p s h;have:p=l:=by simp[h]
   subst this;exact zUa (h0 s)
  | cons x r ih=>
   intro p s h;rcases h1 p x r s h with hb | ⟨s',hb,hs⟩
   .exact zUa hb
   rw[z3a hb,hs];have:=ih (p++ [x]) s' (by simp[h]);simpa using this
 rintro _ s rfl;exact key l [] s rfl
theorem Qva{α S:Type}(l:List α)(enc:Nat->S->A)(spec:Nat->List α->S->R)(Inv:Nat->List α->S->Prop)
 (h0:∀s,Inv l.length [] s->body (enc l.length s)=some (.out (spec l.length [] s)))
 (h1:∀p x r s,l=p++x::r->Inv p.length (x::r) s->(body (enc p.length s)=some (.out (spec p.length (x::r) s)))∨∃s',body (enc p.length s)=some (.cont (enc (p.length+1) s'))/\spec p.length (x::r) s=spec (p.length+1) r s' /\Inv (p.length+1) r s'):
 ∀{s0:A} (s:S) (_:s0=enc 0 s) (_:Inv 0 l s),iter body s0=some (spec 0 l s):=by
 have key:∀r p s,l=p++r->Inv p.length r s->iter body (enc p.length s)=some (spec p.length r s):=by
  intro r;induction r with
  | nil=>
   intro p s h hi;have:p=l:=by simp[h]
   subst this;exact zUa (h0 s hi)
  | cons x r ih=>
   intro p s h hi;rcases h1 p x r s h hi with hb | ⟨s',hb,hs,hi'⟩
   .exact zUa hb
   rw[z3a hb,hs];have:=ih (p++ [x]) s' (by simp[h]) (by simpa using hi');simpa using this
 rintro _ s rfl hi;exact key l [] s rfl hi
end
end
section
section
variable {α R O A S:Type}
def kCa(q:Nat->α->Option R):Nat->List α->Option R
 | _,[]=>none
 | i,x::r=>match q i x with | some y=>some y | none=>kCa q (i+1) r
theorem kKa(l:List α)(q:Nat->α->Option R)(oN:O)(oS:R->O){body:Int->Option (Step Int O)}(hl:body (l.length:Int)=some (.out oN))
 (hs:∀(i:Nat) x,l[i]? =some x->body (i:Int)=some ((q i x).elim (.cont ((i+1:Nat):Int)) fun r=>.out (oS r))):
 iter body 0=some ((kCa q 0 l).elim oN oS):=by
 have key:∀r p,l=p++r->iter body (p.length:Int)=some ((kCa q p.length r).elim oN oS):=by
  intro r;induction r with
  | nil=>
   intro p h;have:p=l:=by simp[h]
   subst this;exact zUa hl
  | cons x r ih=>
   intro p h;have hx:=hs p.length x (by simp[h]);unfold kCa;cases hq:q p.length x with
   | some y=>rw[hq]at hx;exact zUa hx
   | none=>
    rw[hq]at hx;rw[z3a hx];have:=ih (p++ [x]) (by simp[h]);simpa using this
 exact key l [] rfl
theorem qyb(l:List α)(enc:Int->S->A)(f:Nat->S->α->S)(out:S->O)(Inv:Nat->S->Prop){body:A->Option (Step A O)}
 (hl:∀s,Inv l.length s->body (enc l.length s)=some (.out (out s)))
 (hs:∀(i:Nat) x s,l[i]? =some x->Inv i s->body (enc i s)=some (.cont (enc ((i+1:Nat):Int) (f i s x)))/\Inv (i+1) (f i s x)) (s:S) (h0:Inv 0 s):
 ∃t,iter body (enc 0 s)=some (out t)/\Inv l.length t/\t=(l.zipIdx.foldl (fun s p=>f p.2 s p.1) s):=by
 have key:∀r p s,l=p++r->Inv p.length s->∃t,iter body (enc (p.length:Int) s)=some (out t)/\Inv l.length t/\t=((r.zipIdx p.length).foldl (fun s p=>f p.2 s p.1) s):=by
  intro r;induction r with
  | nil=>
   intro p s h hi;have:p=l:=by simp[h]
   subst this;exact ⟨s,zUa (hl s hi),hi,rfl⟩
  | cons x r ih=>
   intro p s h hi;obtain ⟨h1,h2⟩:=hs p.length x s (by simp[h]) hi;rw[z3a h1];obtain ⟨t,h3,h4,h5⟩:=ih (p++ [x]) (f p.length s x) (by simp[h]) (by simpa using h2);refine ⟨t,by simpa using h3,h4,?_⟩;rw[h5];simp
 exact key l [] s rfl h0
theorem zdb(f:S->α->S)(l:List α):∀(n:Nat) (s:S),(l.zipIdx n).foldl (fun s p=>f s p.1) s=l.foldl f s:=by
 induction l with
 | nil=>intro n s;rfl
 | cons x r ih=>intro n s;simp[ih]
theorem Zia(l:List α)(enc:Int->S->A)(f:S->α->S)(out:S->O)(Inv:Nat->S->Prop){body:A->Option (Step A O)}
 (hl:∀s,Inv l.length s->body (enc l.length s)=some (.out (out s)))
 (hs:∀(i:Nat) x s,l[i]? =some x->Inv i s->body (enc i s)=some (.cont (enc ((i+1:Nat):Int) (f s x)))/\Inv (i+1) (f s x)) (s:S) (h0:Inv 0 s):
 iter body (enc 0 s)=some (out (l.foldl f s))/\Inv l.length (l.foldl f s):=by
 obtain ⟨t,h1,h2,h3⟩:=qyb l enc (fun _=>f) out Inv hl hs s h0;have:t=l.foldl f s:=by rw[h3];exact zdb f l 0 s
 subst this;exact ⟨h1,h2⟩
theorem Qwa(c:α->Bool)(r:R)(l:List α)(n:Nat):kCa (fun _ x=>if c x then some r else none) n l=if l.any c then some r else none:=by
 induction l generalizing n with
 | nil=>rfl
 | cons x l ih=>unfold kCa;cases h:c x <;> simp[h,ih]
theorem q3a{q:Nat->α->Option R}{l:List α}{n:Nat}:kCa q n l=none↔∀(i:Nat) x,l[i]? =some x->q (n+i) x=none:=by
 induction l generalizing n with
 | nil=>simp[kCa]
 | cons x l ih=>
  unfold kCa;cases h:q n x with
  | some y=>
   simp only[reduceCtorEq,false_iff];intro hh;have:=hh 0 x rfl;rw[jCi,h]at this;cases this
  | none=>
   rw[ih];constructor
   .intro hh i y hy;cases i with
    | zero=>simp at hy;subst hy;exact h
    | succ i=>rw[show n+(i+1)=n+1+i by omega];exact hh i y (by simpa using hy)
   intro hh i y hy;rw[show n+1+i=n+(i+1) by omega];exact hh (i+1) y (by simpa using hy)
theorem Kea{q:Nat->α->Option R}{l:List α}{n:Nat}{r:R}(h:kCa q n l=some r):∃(i:Nat) (x:α),l[i]? =some x/\q (n+i) x=some r:=by
 induction l generalizing n with
 | nil=>cases h
 | cons x l ih=>
  unfold kCa at h;cases hq:q n x with
  | some y=>rw[hq]at h;cases h;exact ⟨0,x,rfl,hq⟩
  | none=>
   rw[hq]at h;obtain ⟨i,y,h1,h2⟩:=ih h;exact ⟨i+1,y,by simpa using h1,by rw[show n+(i+1)=n+1+i by omega];exact h2⟩
theorem z4a{l:List α}{i:Nat}{x:α}(h:l[i]? =some x):i < l.length:=(jAc.1 h).1
theorem kta{l:List α}{i:Nat}{x:α}(h:l[i]? =some x):decide ((i:Int) < (l.length:Int))=true:=by have:=z4a h;simp;omega
theorem z5a(l:List α):decide ((l.length:Int) < (l.length:Int))=false:=by simp
theorem zFa{l:List α}{i:Nat}{x:α}(h:l[i]? =some x):idx l (i:Int)=some x:=by rw[Qua];exact h
end
end
section
theorem vWb{α:Type}(c:α->Bool)(l:List α):∀n:Nat,decide ((0:Int)<=(kCa (fun i x=>if c x then some ((i:Nat):Int) else none) n l).getD (-1))=l.any c:=by
 induction l with
 | nil=>intro n;rfl
 | cons x l ih=>
  intro n;unfold kCa;cases hc:c x with
  | true=>simp[hc]
  | false=>simp only[jAj,if_false,List.any_cons,hc,jDq];exact ih (n+1)
theorem Vja(o:Option Int):Sum.elim (fun _=>some (-1)) (fun b=>some b) (o.elim (Sum.inl ()) Sum.inr:Unit ⊕ Int)=some (o.getD (-1)):=by cases o <;> rfl
theorem sc(i:Nat)(h:i < 9223372036854775807):w64 ((i:Int)+1)=((i+1:Nat):Int):=by rw[show ((i:Int)+1)=((i+1:Nat):Int) by omega,qxb _ (by omega)]
theorem bkL_pos{T:Type}(bk:T->Nat)(l:List T):1<=bkL bk l:=by
 induction l with
 | nil=>simp[bkL]
 | cons y l ih=>unfold bkL;omega
theorem kab{T:Type}{bk:T->Nat}{l:List T}{x:T}(h:x∈l):bk x+1<=bkL bk l:=by
 induction l with
 | nil=>cases h
 | cons y l ih=>
  unfold bkL;have hp:=bkL_pos bk l;rcases jCd.1 h with rfl | h
  .omega
  have:=ih h;omega
theorem Qxa{T:Type}{bk:T->Nat}(hb:∀x,1<=bk x)(l:List T):l.length+1<=bkL bk l:=by
 induction l with
 | nil=>simp[bkL]
 | cons y l ih=>unfold bkL;have:=hb y;simp;omega
section
variable {α:Type}
end
theorem qzb{V:Type}(m:List (Str × V))(k:Str)(v:V)(x:Str):mget (mput m k v) x=if k==x then some v else mget m x:=by
 induction m with
 | nil=>rfl
 | cons p m ih=>
  obtain ⟨k',v'⟩:=p;unfold mput;by_cases h:k' =k
  .subst h;simp only[beq_self_eq_true,if_true,mget];cases k' ==x <;> simp
  have h1:(k' ==k)=false:=by simpa using h
  rw[h1];simp only[jAj,if_false,mget];rw[ih];by_cases h2:k' =x
  .subst h2;have:(k==k')=false:=by simpa using fun h' =>h h'.symm
   simp[this]
  have:(k' ==x)=false:=by simpa using h2
  rw[this];simp
section
variable {α A S O:Type}
end
end
def le:Nat->Nat->List UInt8
 | 0,_=>[]
 | k+1,u=>UInt8.ofNat (u % 256)::le k (u / 256)
def valB:List UInt8->Nat
 | []=>0
 | c::l=>c.toNat+256 * valB l
theorem vXb(k u:Nat):le (k+1) u=UInt8.ofNat (u % 256)::le k (u / 256):=rfl
theorem le_len:∀(k u:Nat),(le k u).length=k
 | 0,_=>rfl
 | k+1,u=>by simp[le,le_len k]
theorem vYb:∀(k u:Nat),valB (le k u)=u % 256 ^ k
 | 0,u=>by simp[le,valB,Nat.mod_one]
 | k+1,u=>by
  unfold le valB;rw[vYb k,jCt,show 256 ^ (k+1)=256 * 256 ^ k by rw[Nat.pow_succ,jDl],Nat.mod_mul];omega
theorem kbb:∀l:List UInt8,valB l < 256 ^ l.length
 | []=>by simp[valB]
 | c::l=>by
  have:=kbb l;have:=UInt8.toNat_lt c;unfold valB;rw[jCl,Nat.pow_succ];omega
theorem vZb:∀l:List UInt8,le l.length (valB l)=l
 | []=>rfl
 | c::l=>by
  have hc:=UInt8.toNat_lt c;unfold valB;rw[jCl];unfold le;rw[show (c.toNat+256 * valB l) % 256=c.toNat by omega,show (c.toNat+256 * valB l) / 256=valB l by omega,vZb l]
  congr 1
  exact UInt8.ofNat_toNat
def num8(n:Int):List UInt8:=le 8 (wu64 n).toNat
def v0b(l:List UInt8):Int:=w64 (valB l:Int)
theorem zLa(n:Int):(num8 n).length=8:=le_len _ _
theorem zeb(n:Int):w64 n=if 9223372036854775808<=n % 18446744073709551616 then n % 18446744073709551616 - 18446744073709551616 else n % 18446744073709551616:=by
 unfold w64;simp[IntKind.wrap,IntKind.bits,IntKind.signed]
theorem w64_u(n:Int)(h:ok64 n):w64 (wu64 n)=n:=by
 unfold ok64 at h;unfold wu64;by_cases hn:0<=n
 .rw[show n % 18446744073709551616=n by omega];exact vga (by omega) (by omega)
 rw[show n % 18446744073709551616=n+18446744073709551616 by omega];show w64 (n+18446744073709551616)=n;rw[zeb];split <;> omega
theorem Qya(n:Int)(h:ok64 n):v0b (num8 n)=n:=by
 unfold v0b num8;rw[vYb];have h0:0<=wu64 n/\wu64 n < 18446744073709551616:=by unfold wu64;omega
 rw[jDc (show (wu64 n).toNat < 256 ^ 8 by show _ < 18446744073709551616;omega),Int.toNat_of_nonneg h0.1];exact w64_u n h
theorem wu64_w(u:Nat)(h:u < 18446744073709551616):(wu64 (w64 (u:Int))).toNat=u:=by
 unfold wu64;rw[zeb];split <;> omega
theorem qAb(l:List UInt8)(h:l.length=8):num8 (v0b l)=l:=by
 have h1:=kbb l;rw[h]at h1;unfold num8 v0b;rw[wu64_w _ h1];have:=vZb l;rw[h]at this;exact this
theorem W9a(u:Int):ok64 (w64 u):=by
 unfold ok64;rw[zeb];split <;> omega
theorem byte_shr(n:Int)(i:Nat)(hi:i < 8):toU8 (uShr (wu64 n) (w64 (8 * (i:Int))))=UInt8.ofNat ((wu64 n).toNat / 256 ^ i % 256):=by
 have h0:0<=wu64 n:=by unfold wu64;omega
 obtain ⟨u,hu⟩:∃u:Nat,wu64 n=(u:Int):=⟨(wu64 n).toNat,by omega⟩;rw[hu];unfold toU8 uShr;rw[vga (by omega) (by omega),show (8 * (i:Int)).toNat=8 * i by omega,Nat.min_eq_left (by omega)];have h2:((2:Int) ^ (8 * i))=((256 ^ i:Nat):Int):=by
  rw[Int.natCast_pow];rw[Int.pow_mul,show ((2:Int) ^ 8)=((256:Nat):Int) by decide]
 rw[h2,<-Int.natCast_ediv];rfl
theorem zfb(n:Int){body:Int × zma->Option (Step (Int × zma) zma)}(hb:body=kaa n):∀(k i:Nat) (o:List UInt8),i+k=8->o.length+k<=140737488355328->
 iter body ((i:Int),⟨o⟩)=some ⟨o++le k ((wu64 n).toNat / 256 ^ i)⟩:=by
 intro k;induction k with
 | zero=>
  intro i o hi hl;have:i=8:=by omega
  subst this;subst hb;refine zUa ?_;unfold kaa le;simp
 | succ k ih=>
  intro i o hi hl;have hc:body ((i:Int),⟨o⟩)=some (.cont (((i+1:Nat):Int),⟨o++ [UInt8.ofNat ((wu64 n).toNat / 256 ^ i % 256)]⟩)):=by
   subst hb;unfold kaa;dsimp only;rw[decide_eq_true (show (i:Int) < 8 by omega),byte_shr n i (by omega)];have:nng (w64 (8 * (i:Int)))=some true:=by
    unfold nng;rw[vga (by omega) (by omega),if_pos (by omega)]
   rw[this];simp only[cond_true,jAb,sc i (by omega)];rw[vxa (by simp;omega)];rfl
  rw[z3a hc,ih (i+1) _ (by omega) (by simp;omega)];rw[vXb,Nat.div_div_eq_div_mul,Nat.pow_succ,jAp];rfl
theorem zVa(w:zma)(n:Int)(h:w.out.length<=70368744177664):zKa w n=some ⟨w.out++num8 n⟩:=by
 unfold zKa;have:=zfb n rfl 8 0 w.out rfl (by omega);rw[show iter (kaa n) (0,w)=_ from this];simp[num8]
def encT(s:Str):List UInt8:=num8 (s.length:Int)++s
theorem kDa(s:Str):(encT s).length=8+s.length:=by unfold encT;rw[jAg,zLa]
theorem kja(w:zma)(s:Str)(h:w.out.length<=35184372088832)(hs:s.length<=35184372088832):z1a w s=some ⟨w.out++encT s⟩:=by
 unfold z1a;rw[zVa w _ (by omega)];simp only[jAb];rw[vxa (by rw[jAg,zLa];omega)];simp[encT]
theorem v1b:∀(k i u:Nat) (o:List UInt8),i+k=8->o.length+k<=140737488355328->u < 18446744073709551616->iter qRa ((u:Int),(i:Int),o)=some (o++le k u):=by
 intro k;induction k with
 | zero=>
  intro i u o hi hl hu;have:i=8:=by omega
  subst this;refine zUa ?_;unfold qRa le;simp
 | succ k ih=>
  intro i u o hi hl hu;have hc:qRa ((u:Int),(i:Int),o)=some (.cont (((u / 256:Nat):Int),((i+1:Nat):Int),o++ [UInt8.ofNat (u % 256)])):=by
   unfold qRa;dsimp only;rw[decide_eq_true (show (i:Int) < 8 by omega)];have h1:toU8 (uRem (u:Int) 256)=UInt8.ofNat (u % 256):=by
    unfold toU8 uRem;rw[show ((u:Int).tmod 256)=((u % 256:Nat):Int) from rfl];rw[show ((((u % 256:Nat):Int) % 256).toNat)=u % 256 by omega]
   have h2:uQuo (u:Int) 256=((u / 256:Nat):Int):=by
    unfold uQuo wu64;rw[show ((u:Int).tdiv 256)=((u / 256:Nat):Int) from rfl];omega
   rw[h1,h2];simp only[cond_true,sc i (by omega)];rw[vxa (by simp;omega)];rfl
  rw[z3a hc,ih (i+1) (u / 256) _ (by omega) (by simp;omega) (by omega)];rw[vXb,jAp];rfl
theorem qfa(b:List UInt8)(n:Int)(h:b.length<=70368744177664):k9a b n=some (b++num8 n):=by
 unfold k9a;have h0:0<=wu64 n/\wu64 n < 18446744073709551616:=by unfold wu64;omega
 have:=v1b 8 0 (wu64 n).toNat b rfl (by omega) (by omega);rw[Int.toNat_of_nonneg h0.1]at this;rw[show iter qRa (wu64 n,0,b)=_ from this];rfl
theorem v5a(b:List UInt8)(s:Str)(h:b.length<=35184372088832)(hs:s.length<=35184372088832):woa b s=some (b++encT s):=by
 unfold woa;rw[qfa b _ (by omega)];simp only[jAb];rw[vxa (by rw[jAg,zLa];omega)];simp[encT]
def zgb(l:List Int):List UInt8:=num8 (l.length:Int)++l.flatMap num8
theorem KJa:∀l:List Int,(l.flatMap num8).length=8 * l.length
 | []=>rfl
 | n::l=>by rw[jCy,jAg,zLa,KJa l,jCl];omega
theorem KKa(b:List UInt8)(l:List Int)(h:b.length<=35184372088832)(hl:l.length<=1048576):yda b l=some (b++zgb l):=by
 unfold yda;rw[qfa b _ (by omega)];simp only[jAb];have hloop:iter (wpa l) (0,b++num8 (l.length:Int))=some ((b++num8 (l.length:Int))++l.flatMap num8):=by
  refine Qva l (fun n (s:List UInt8)=>((n:Int),s)) (fun n r s=>s++r.flatMap num8) (fun n r s=>s.length<=35184372088840+8 * n) (fun s _=>?_) (fun p x r s hp hi=>.inr ?_) _ rfl (by rw[jAg,zLa];omega)
  .unfold wpa;dsimp only;rw[z5a];simp
  have hx:l[p.length]? =some x:=by rw[hp];simp
  have hlt:=z4a hx;refine ⟨s++num8 x,?_,by simp,by rw[jAg,zLa];omega⟩;unfold wpa;dsimp only;rw[kta hx,zFa hx];simp only[cond_true,jAb];rw[qfa s x (by omega)];simp only[jAb,sc _ (show p.length < 9223372036854775807 by omega)]
 rw[hloop];simp[zgb]
def sumB(l:List UInt8):Int:=l.foldl (fun h c=>wu64 (uXor h (c.toNat:Int) * 1099511628211)) 14695981039346656037
theorem QPa(l:List UInt8)(h:l.length<=140737488355328):Zha l=some (sumB l):=by
 unfold Zha;rw[(Zia l (fun i s=>(s,i)) (fun h c=>wu64 (uXor h (c.toNat:Int) * 1099511628211)) id (fun _ _=>True) (body:=wUa l) (fun s _=>by unfold wUa;dsimp only;rw[z5a];rfl) (fun i x s hx _=>⟨by
  have hi:=z4a hx;unfold wUa;dsimp only;rw[kta hx,zFa hx];simp only[cond_true,jAb,sc i (by omega)],trivial⟩) 14695981039346656037 trivial).1]
 rfl
theorem WCa(l:List UInt8)(h:l.length<=140737488355328):jKa l=some (sumB l):=QPa l h
end Go.Proofs.YtdblnmhmmfahkaaGreat
