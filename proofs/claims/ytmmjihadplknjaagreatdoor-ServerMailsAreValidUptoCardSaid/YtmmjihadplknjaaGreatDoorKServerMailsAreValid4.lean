/- Part 4 of the proof of the law ServerMailsAreValid: what it needs. -/
import Derived.Test.YtmmjihadplknjaaGreatDoorKServerMailsAreValid3
import Derived.Lib.ItoaMem
import Derived.Lib.Atoi
import Derived.Lib.SplitLaws
set_option linter.unusedVariables false
set_option linter.unusedSimpArgs false
set_option maxRecDepth 100000
set_option maxHeartbeats 40000000
namespace Go.Proofs.YtmmjihadplknjaaGreatDoor
open Go.RowKit
def K7a(l:List UInt8):List UInt8:=l.dropWhile zNa
theorem Jga(x:UInt8)(l:Str):wca (x::l)=if zNa x=true/\wca l=[] then [] else x::wca l:=by
 unfold wca;rw[List.reverse_cons,List.dropWhile_append];cases h:(l.reverse.dropWhile zNa).isEmpty with
 | true=>
  have h0:l.reverse.dropWhile zNa=[]:=List.isEmpty_iff.1 h;rw[h0,List.dropWhile_cons];cases hx:zNa x <;> simp
 | false=>
  have h0:l.reverse.dropWhile zNa≠ []:=fun e=>by rw[e]at h;cases h
  simp[h0]
theorem kgb:∀l:Str,K7a (wca l)=wca (K7a l)
 | []=>rfl
 | x::l=>by
  have ih:=kgb l;rw[Jga];cases hx:zNa x with
  | false=>
   rw[if_neg (by simp)];unfold K7a;rw[List.dropWhile_cons_of_neg (by simp[hx]),List.dropWhile_cons_of_neg (by simp[hx]),Jga,if_neg (by simp[hx])]
  | true=>
   rw[show K7a (x::l)=K7a l by unfold K7a;rw[List.dropWhile_cons_of_pos hx],<-ih];split
   .rename_i h;rw[h.2]
   unfold K7a;rw[List.dropWhile_cons_of_pos hx]
def Zra(v:Str):Str:=wca (K7a (v.map kna))
theorem Jha(v:Str):(Zra v).length<=v.length:=by
 unfold Zra K7a;have h1:=jTa ((v.map kna).dropWhile zNa);have h2:=(List.dropWhile_sublist zNa (l:=v.map kna)).length_le;simp at h2;omega
theorem Trim_eq(v:Str)(hs:v.length<=1048576):((zVa v).bind fun v48=>w4a v48 [32,9])=some (Zra v):=by
 unfold zVa w4a Lib.trimS Lib.trimLeftS Lib.trimRightS;rw[if_pos (by omega)];simp only[Option.bind_some];rw[if_pos ⟨by simp;omega,by decide,rfl⟩,kfb];show some (K7a (wca (v.map kna)))=_;rw[kgb];rfl
theorem cleaned1(s:Str)(hs:s.length<=1048576):iter (w6a s) (0,([]:List UInt8))=some (s.map kna):=by
 have h:=yUa s (fun i a=>(i,a)) (fun (a:List UInt8) c=>a++ [kna c]) id (fun i a=>a.length=i) (body:=w6a s) (fun a ha=>by
  unfold w6a;rw[zMa];rfl) (fun i c a hc ha=>by
  have hi:=zLa hc;refine ⟨?_,by simp[ha]⟩;unfold w6a;rw[koa hc,zCa hc];simp only[cond_true,Option.bind_some];rw[qJa c 0 (by decide),qJa c 13 (by decide)];have e:(bif c==0 then some true else some (c==13):Option Bool)=some (c==0 || c==13):=by cases c==0 <;> rfl
  rw[e];simp only[Option.bind_some];have e2:(bif (c==0 || c==13) then some (32:UInt8) else some c)=some (kna c):=by
   unfold kna;by_cases h0:c=0
   .subst h0;rfl
   by_cases h1:c=13
   .subst h1;rfl
   rw[beq_eq_false_iff_ne.2 h0,beq_eq_false_iff_ne.2 h1,if_neg (by simp[h0,h1])];rfl
  rw[e2];simp only[Option.bind_some];rw[kla (by simp;omega),sc i (by omega)];rfl) [] rfl
 rw[h.1];have:∀(l:Str) (a:List UInt8),l.foldl (fun a c=>a++ [kna c]) a=a++l.map kna:=by
  intro l;induction l with
  | nil=>intro a;simp
  | cons x l ih=>intro a;rw[List.foldl_cons,ih];simp
 rw[this];rfl
theorem vob:∀(l:Str),l.length<=1048576->iter (jfa) l=some (K7a l)
 | [],_=>zAa rfl
 | x::l,h=>by
  have hb:jfa (x::l)=some (bif zNa x then .cont l else .out (x::l)):=by
   unfold jfa;rw[show decide ((0:Int) < ((x::l).length:Int))=true by simp,show idx (x::l) 0=some x from rfl];simp only[cond_true,Option.bind_some,yxa];rw[show ((1:Int))=((1:Nat):Int) from rfl,jha (by simp)];cases zNa x <;> rfl
  cases hx:zNa x with
  | true=>
   rw[hx]at hb;rw[zOa hb,vob l (by simp at h;omega)];unfold K7a;rw[List.dropWhile_cons_of_pos hx]
  | false=>
   rw[hx]at hb;rw[zAa hb];unfold K7a;rw[List.dropWhile_cons_of_neg (by simp[hx])]
theorem cleaned3(n:Nat):∀(l:Str),l.length=n->l.length<=1048576->iter (jga) l=some (wca l):=by
 induction n with
 | zero=>
  intro l hn _;have:=List.eq_nil_of_length_eq_zero hn;subst this;exact zAa rfl
 | succ n ih=>
  intro l hn h;obtain ⟨p,x,rfl⟩:∃p x,l=p++ [x]:=⟨l.dropLast,l.getLast (by rintro rfl;simp at hn),(List.dropLast_concat_getLast _).symm⟩;have hp:p.length=n:=by simpa using hn
  have hb:jga (p++ [x])=some (bif zNa x then .cont p else .out (p++ [x])):=by
   unfold jga;have e2:w64 (((p++ [x]).length:Int) - 1)=(p.length:Int):=by
    rw[show (((p++ [x]).length:Int) - 1)=(p.length:Int) by simp,Zxa _ (by omega)]
   rw[show decide ((0:Int) < ((p++ [x]).length:Int))=true by simp,e2,qub p x []];simp only[cond_true,Option.bind_some,yxa];rw[Zoa (by simp)];simp only[List.take_left];cases zNa x <;> rfl
  rw[Jea];cases hx:zNa x with
  | true=>
   rw[hx]at hb;rw[zOa hb,ih p hp (by omega),if_pos rfl]
  | false=>
   rw[hx]at hb;rw[zAa hb,if_neg (by simp)]
theorem khb(s:Str)(hs:s.length<=1048576):WMa s=some (Zra s):=by
 unfold WMa;rw[cleaned1 s hs];simp only[Option.bind_some];have h2:(K7a (s.map kna)).length<=s.length:=by
  unfold K7a;have:=(List.dropWhile_sublist zNa (l:=s.map kna)).length_le;simpa using this
 rw[vob _ (by simpa using hs)];simp only[Option.bind_some];rw[cleaned3 _ _ rfl (by omega)];rfl
def Zha:Nat->List UInt8->List UInt8
 | 0,_=>[]
 | _+1,[]=>[]
 | n+1,c::r=>if c=13 then 13::10::Zha n (if r.head? =some 10 then r.drop 1 else r) else if c=10 then 13::10::Zha n r else c::Zha n r
theorem WZa:∀(n:Nat) (l:List UInt8),(Zha n l).length<=2 * n
 | 0,_=>by simp[Zha]
 | n+1,[]=>by simp[Zha]
 | n+1,c::r=>by
  unfold Zha;split
  .have:=WZa n (if r.head? =some 10 then r.drop 1 else r);simp only[List.length_cons];omega
  have:=WZa n r;split <;> simp only[List.length_cons] <;> omega
theorem Vja:∀(n m:Nat) (l:List UInt8),l.length<=n->l.length<=m->Zha n l=Zha m l
 | 0,m,l,h,_=>by
  obtain rfl:=List.eq_nil_of_length_eq_zero (by omega:l.length=0);cases m <;> rfl
 | n+1,m,[],_,_=>by cases m <;> rfl
 | n+1,0,c::r,_,h=>by simp at h
 | n+1,m+1,c::r,h1,h2=>by
  simp only[List.length_cons]at h1 h2;unfold Zha;have hle:(if r.head? =some 10 then r.drop 1 else r).length<=r.length:=by
   split
   .simp
   exact Nat.le_refl _
  have e1:=Vja n m (if r.head? =some 10 then r.drop 1 else r) (by omega) (by omega);have e2:=Vja n m r (by omega) (by omega);rw[e1,e2]
theorem kib(b:List UInt8)(hb:b.length<=1048576){body:Int × List UInt8->Option (Step (Int × List UInt8) (List UInt8))}
 (h0:∀a,body ((b.length:Int),a)=some (.out a))
 (h1:∀(i:Nat) c a,b[i]? =some c->a.length<=3000000->body ((i:Int),a)=some (.cont (if c=13 then (((if b[i+1]? =some 10 then i+2 else i+1:Nat):Int),a++ [13,10]) else if c=10 then (((i+1:Nat):Int),a++ [13,10]) else (((i+1:Nat):Int),a++ [c])))):
 ∀(n i:Nat) (a:List UInt8),i+n=b.length->a.length<=2 * i->iter body ((i:Int),a)=some (a++Zha n (b.drop i)):=by
 intro n;induction n using Nat.strongRecOn with
 | _ n ih=>
  intro i a hn ha;cases n with
  | zero=>
   obtain rfl:i=b.length:=by omega
   rw[zAa (h0 a)];simp[Zha]
  | succ n=>
   have hi:i < b.length:=by omega
   have hd:b.drop i=b[i]::b.drop (i+1):=List.drop_eq_getElem_cons hi;have hs:=h1 i b[i] a (List.getElem?_eq_getElem hi) (by omega);rw[zOa hs,hd];unfold Zha;by_cases h13:b[i]=13
   .rw[if_pos h13,if_pos h13];have hh:(b.drop (i+1)).head? =b[i+1]? :=by rw[List.head?_drop]
    rw[hh];by_cases h10:b[i+1]? =some 10
    .rw[if_pos h10,if_pos h10];have hi1:=(List.getElem?_eq_some_iff.1 h10).1;have:=ih (n - 1) (by omega) (i+2) (a++ [13,10]) (by omega) (by simp;omega);rw[this,List.drop_drop,Vja (n - 1) n _ (by simp;omega) (by simp;omega)];simp
    rw[if_neg h10,if_neg h10];have:=ih n (by omega) (i+1) (a++ [13,10]) (by omega) (by simp;omega);rw[this];simp
   rw[if_neg h13,if_neg h13];by_cases h10:b[i]=10
   .rw[if_pos h10,if_pos h10,ih n (by omega) (i+1) (a++ [13,10]) (by omega) (by simp;omega)];simp
   rw[if_neg h10,if_neg h10,ih n (by omega) (i+1) (a++ [b[i]]) (by omega) (by simp;omega)];simp
theorem jAa(c k:UInt8):(c==k)=decide (c=k):=by rw[Bool.eq_iff_iff];simp
theorem y0b(b:List UInt8)(i:Nat)(hb:b.length<=1048576)(hi:i < b.length):(bif decide (w64 ((i:Int)+1) < (b.length:Int)) then (idx b (w64 ((i:Int)+1))).bind fun v11=>some ((v11.toNat:Int)==10) else some false)=some (decide (b[i+1]? =some 10)):=by
 rw[sc i (by omega)];by_cases h:i+1 < b.length
 .rw[decide_eq_true (by omega),wCa,List.getElem?_eq_getElem h];simp only[cond_true,Option.bind_some];rw[qJa _ 10 (by decide),jAa]
  congr 1
  rw[Bool.eq_iff_iff];simp
 rw[decide_eq_false (by omega),List.getElem?_eq_none (by omega)];rfl
theorem VWa(b:List UInt8)(hb:b.length<=1048576):v6a b=some (Zha b.length b):=by
 unfold v6a;have:=kib b hb (body:=qIa b) (fun a=>by unfold qIa;rw[zMa];rfl) (fun i c a hc ha=>by
  have hi:=zLa hc;unfold qIa;dsimp only;rw[koa hc,zCa hc,y0b b i hb hi];simp only[cond_true,Option.bind_some];rw[qJa c 13 (by decide),qJa c 10 (by decide),jAa,jAa];rw[kla (show a.length+([13,10]:List UInt8).length<=_ by simp;omega),kla (show a.length+ [c].length<=_ by simp;omega)];by_cases h13:c=13
  .rw[if_pos h13,decide_eq_true h13];simp only[cond_true,Option.bind_some];by_cases h10:b[i+1]? =some 10
   .rw[if_pos h10,decide_eq_true h10];simp only[cond_true,Option.bind_some];rw[sc i (by omega),sc (i+1) (by omega)]
   rw[if_neg h10,decide_eq_false h10];simp only[cond_false,Option.bind_some];rw[sc i (by omega)]
  rw[if_neg h13,decide_eq_false h13];simp only[cond_false,Option.bind_some];by_cases h10:c=10
  .rw[if_pos h10,decide_eq_true h10];simp only[cond_true,Option.bind_some];rw[sc i (by omega)]
  rw[if_neg h10,decide_eq_false h10];simp only[cond_false,Option.bind_some];rw[sc i (by omega)]) b.length 0 [] (by omega) (by simp)
 rw[show ((0:Int))=((0:Nat):Int) from rfl,this];rfl
theorem y1b(b:List UInt8)(hb:b.length<=1048576)(i:Nat)(hi:i<=b.length):iter (vAa b) ((i:Int),([]:List UInt8))=some (Zha (b.drop i).length (b.drop i)):=by
 have:=kib b hb (body:=vAa b) (fun a=>by unfold vAa;rw[zMa];rfl) (fun i c a hc ha=>by
  have hi:=zLa hc;unfold vAa;dsimp only;rw[koa hc,zCa hc,y0b b i hb hi];simp only[cond_true,Option.bind_some];rw[qJa c 13 (by decide),qJa c 10 (by decide),jAa,jAa];rw[kla (show a.length+([13,10]:List UInt8).length<=_ by simp;omega),kla (show a.length+ [c].length<=_ by simp;omega)];by_cases h13:c=13
  .rw[if_pos h13,decide_eq_true h13];simp only[cond_true,Option.bind_some];by_cases h10:b[i+1]? =some 10
   .rw[if_pos h10,decide_eq_true h10];simp only[cond_true,Option.bind_some];rw[sc i (by omega),sc (i+1) (by omega)]
   rw[if_neg h10,decide_eq_false h10];simp only[cond_false,Option.bind_some];rw[sc i (by omega)]
  rw[if_neg h13,decide_eq_false h13];simp only[cond_false,Option.bind_some];by_cases h10:c=10
  .rw[if_pos h10,decide_eq_true h10];simp only[cond_true,cond_false,Option.bind_some];rw[sc i (by omega)]
  rw[if_neg h10,decide_eq_false h10];simp only[cond_false,Option.bind_some];rw[sc i (by omega)]) (b.drop i).length i [] (by simp;omega) (by simp)
 rw[this];rfl
def qGb{S R:Type}(step:S->S ⊕ R)(dflt:R):Nat->S->R
 | 0,_=>dflt
 | n+1,s=>match step s with | .inl s' =>qGb step dflt n s' | .inr r=>r
theorem QCa{S R A B:Type}(enc:S->A)(out:R->B)(step:S->S ⊕ R)(dflt:R)(Inv:S->Prop)(m:S->Nat){body:A->Option (Step A B)}
 (h:∀s,Inv s->body (enc s)=some (Sum.elim (fun s' =>.cont (enc s')) (fun r=>.out (out r)) (step s))/\∀s',step s=.inl s' ->Inv s' /\m s' < m s):
 ∀(n:Nat) (s:S),Inv s->m s < n->iter body (enc s)=some (out (qGb step dflt n s)):=by
 intro n;induction n with
 | zero=>intro s _ h2;omega
 | succ n ih=>
  intro s hs hm;obtain ⟨h1,h2⟩:=h s hs;unfold qGb;cases hst:step s with
  | inl s' =>
   rw[hst]at h1;obtain ⟨h3,h4⟩:=h2 s' hst;rw[zOa h1];exact ih s' h3 (by omega)
  | inr r=>
   rw[hst]at h1;exact zAa h1
theorem kjb{S R:Type}(step:S->S ⊕ R)(dflt:R)(Inv:S->Prop)(Post:R->Prop)(m:S->Nat)
 (h:∀s,Inv s->(∀s',step s=.inl s' ->Inv s' /\m s' < m s)/\∀r,step s=.inr r->Post r):∀(n:Nat) (s:S),Inv s->m s < n->Post (qGb step dflt n s):=by
 intro n;induction n with
 | zero=>intro s _ h2;omega
 | succ n ih=>
  intro s hs hm;obtain ⟨h1,h2⟩:=h s hs;unfold qGb;cases hst:step s with
  | inl s' =>exact ih s' (h1 s' hst).1 (by have:=(h1 s' hst).2;omega)
  | inr r=>exact h2 r hst
def K8a(l:List zia)(t:Str):List zia:=match l[l.length - 1]? with
 | some f=>l.set (l.length - 1) ⟨f.Name,f.Value++t⟩
 | none=>l
def wEa(b:List UInt8)(s:Nat × List zia):(Nat × List zia) ⊕ (Nat × List zia):=
 if s.1 < b.length then
  match (ysa (b.drop s.1)).1 with
  | []=>.inr (s.1+(ysa (b.drop s.1)).2,s.2)
  | c::_=>if zNa c=true/\s.2≠ [] then .inl (s.1+(ysa (b.drop s.1)).2,K8a s.2 (ysa (b.drop s.1)).1)
   else if (colP (ysa (b.drop s.1)).1).2.2=true then .inl (s.1+(ysa (b.drop s.1)).2,s.2++ [⟨(colP (ysa (b.drop s.1)).1).1,(colP (ysa (b.drop s.1)).1).2.1⟩])
   else .inr s
 else .inr s
def HInv(b:List UInt8)(s:Nat × List zia):Prop:=s.1<=b.length/\s.2.length<=s.1/\∀f∈s.2,f.Name.length<=s.1/\f.Value.length<=s.1
theorem W0a(b:List UInt8):(ysa b).1.length<=(ysa b).2:=by
 unfold ysa;split
 .unfold chop;split <;> simp <;> omega
 exact Nat.le_refl _
theorem W1a{l:List zia}(h:l≠ []):∃f,l[l.length - 1]? =some f/\f∈l:=by
 have:=List.length_pos_iff.2 h;exact ⟨l[l.length - 1]'(by omega),List.getElem?_eq_getElem (by omega),List.getElem_mem _⟩
theorem W2a{b:List UInt8}{s:Nat × List zia}(h:HInv b s):(∀s',wEa b s=.inl s' ->HInv b s' /\b.length - s'.1 < b.length - s.1)/\∀r,wEa b s=.inr r->HInv b r:=by
 obtain ⟨h1,h2,h3⟩:=h;unfold wEa;by_cases hl:s.1 < b.length
 .rw[if_pos hl];have hne:b.drop s.1≠ []:=by
   intro e;have:=congrArg List.length e;simp at this;omega
  obtain ⟨p1,p2,p3⟩:=WYa hne;have p4:=W0a (b.drop s.1);rw[List.length_drop]at p2;generalize ysa (b.drop s.1)=L at p1 p2 p3 p4;obtain ⟨t,n⟩:=L;dsimp only at p1 p2 p3 p4 ⊢;cases t with
  | nil=>
   refine ⟨fun s' e=>(by cases e),fun r e=>?_⟩;cases e;exact ⟨by show s.1+n<=_;omega,by show s.2.length<=s.1+n;omega,fun f hf=>by have:=h3 f hf;show _<=s.1+n/\_<=s.1+n;omega⟩
  | cons c t=>
   dsimp only;by_cases hb:zNa c=true/\s.2≠ []
   .rw[if_pos hb];refine ⟨fun s' e=>?_,fun r e=>by cases e⟩;cases e;obtain ⟨f,hf,hm⟩:=W1a hb.2;have hset:K8a s.2 (c::t)=s.2.set (s.2.length - 1) ⟨f.Name,f.Value++(c::t)⟩:=by unfold K8a;rw[hf]
    refine ⟨⟨by show s.1+n<=_;omega,?_,fun g hg=>?_⟩,by show b.length - (s.1+n) < _;omega⟩
    .show (K8a s.2 (c::t)).length<=s.1+n;rw[hset,List.length_set];omega
    have hg:g∈K8a s.2 (c::t):=hg;rw[hset]at hg;show _<=s.1+n/\_<=s.1+n;rcases List.mem_or_eq_of_mem_set hg with h4 | rfl
    .have:=h3 g h4;omega
    have:=h3 f hm;simp only[List.length_append];omega
   rw[if_neg hb];by_cases hc:(colP (c::t)).2.2=true
   .rw[if_pos hc];refine ⟨fun s' e=>?_,fun r e=>by cases e⟩;cases e;obtain ⟨q1,q2⟩:=colP_len (c::t);refine ⟨⟨by show s.1+n<=_;omega,by simp;omega,fun g hg=>?_⟩,by show b.length - (s.1+n) < _;omega⟩;rcases List.mem_append.1 hg with h4 | h4
    .have:=h3 g h4;show _<=s.1+n/\_<=s.1+n;omega
    rw[List.mem_singleton]at h4;subst h4;show _<=s.1+n/\_<=s.1+n;dsimp only;omega
   rw[if_neg hc];exact ⟨fun s' e=>(by cases e),fun r e=>(by cases e;exact ⟨h1,h2,h3⟩)⟩
 rw[if_neg hl];exact ⟨fun s' e=>(by cases e),fun r e=>(by cases e;exact ⟨h1,h2,h3⟩)⟩
def encH(s:Nat × List zia):Int × List zia:=((s.1:Int),s.2)
theorem vpb{l:List zia}(h:l≠ [])(hl:l.length<=1048576):w64 ((l.length:Int) - 1)=((l.length - 1:Nat):Int):=by
 have:=List.length_pos_iff.2 h;rw[show ((l.length:Int) - 1)=((l.length - 1:Nat):Int) by omega,Zxa _ (by omega)]
theorem y2b(b:List UInt8)(hb:b.length<=12000)(s:Nat × List zia)(h:HInv b s):vya b (encH s)=some (Sum.elim (fun s' =>.cont (encH s')) (fun r=>.out (encH r)) (wEa b s)):=by
 obtain ⟨h1,h2,h3⟩:=h;unfold vya wEa encH;by_cases hl:s.1 < b.length
 .rw[if_pos hl,decide_eq_true (by omega)];have hne:b.drop s.1≠ []:=by
   intro e;have:=congrArg List.length e;simp at this;omega
  obtain ⟨p1,p2,p3⟩:=WYa hne;have p4:=W0a (b.drop s.1);have hline:=YFa (b.drop s.1) (by simp;omega);rw[List.length_drop]at p2 p3;simp only[cond_true];rw[jha (by omega)];simp only[Option.bind_some];rw[hline];generalize ysa (b.drop s.1)=L at p1 p2 p3 p4;obtain ⟨t,n⟩:=L;dsimp only at p1 p2 p3 p4 ⊢;simp only[Option.bind_some];rw[yEb _ _ (by omega)];cases t with
  | nil=>rfl
  | cons c t=>
   rw[show ((c::t)==([]:Str))=false from rfl,show idx (c::t) 0=some c from rfl];simp only[cond_false,Option.bind_some,jya];have e0:(bif zNa c then some (decide ((0:Int) < (s.2.length:Int))) else some false)=some (decide (zNa c=true/\s.2≠ [])):=by
    cases zNa c with
    | false=>rfl
    | true=>
     simp only[cond_true,Option.some.injEq];rw[Bool.eq_iff_iff];simp[List.length_pos_iff]
   rw[e0];simp only[Option.bind_some];by_cases hbl:zNa c=true/\s.2≠ []
   .rw[if_pos hbl,decide_eq_true hbl];obtain ⟨f,hf,hm⟩:=W1a hbl.2;have hv:=h3 f hm;simp only[cond_true];rw[vpb hbl.2 (by omega),wCa,hf];simp only[Option.bind_some];rw[yTa (by omega)];simp only[Option.bind_some];unfold K8a;rw[hf];rfl
   rw[if_neg hbl,decide_eq_false hbl];simp only[cond_false];rw[VVa _ (by omega)];simp only[Option.bind_some];cases hc:(colP (c::t)).2.2 with
   | false=>rfl
   | true=>
    rw[if_pos rfl];simp only[Bool.not_true,cond_false];rw[kla (by simp;omega)];rfl
 rw[if_neg hl,decide_eq_false (by omega)];rfl
theorem ref_body(b:List UInt8)(hb:b.length<=12000)(s:Nat × List zia)(h:HInv b s):wOa b (encH s)=some (Sum.elim (fun s' =>.cont (encH s')) (fun r=>.out (encH r)) (wEa b s)):=by
 obtain ⟨h1,h2,h3⟩:=h;unfold wOa wEa encH;by_cases hl:s.1 < b.length
 .rw[if_pos hl,decide_eq_true (by omega)];have hne:b.drop s.1≠ []:=by
   intro e;have:=congrArg List.length e;simp at this;omega
  obtain ⟨p1,p2,p3⟩:=WYa hne;have p4:=W0a (b.drop s.1);have hline:=zob (b.drop s.1) (by simp;omega);rw[List.length_drop]at p2 p3;simp only[cond_true];rw[jha (by omega)];simp only[Option.bind_some];rw[hline];generalize ysa (b.drop s.1)=L at p1 p2 p3 p4;obtain ⟨t,n⟩:=L;dsimp only at p1 p2 p3 p4 ⊢;simp only[Option.bind_some];rw[yEb _ _ (by omega)];cases t with
  | nil=>rfl
  | cons c t=>
   rw[show ((c::t)==([]:Str))=false from rfl,show idx (c::t) 0=some c from rfl];simp only[cond_false,Option.bind_some,yxa];by_cases hs:s.2=[]
   .have e1:w64 ((s.2.length:Int) - 1)= -1:=by rw[hs];rfl
    rw[e1,if_neg (fun e=>e.2 hs)];have e0:(bif zNa c then some ((-1:Int),decide ((0:Int)<= -1)) else some (-1,false))=some (-1,false):=by cases zNa c <;> rfl
    rw[e0];simp only[Option.bind_some,cond_false];rw[Jfa _ (by omega)];simp only[Option.bind_some];cases hc:(colP (c::t)).2.2 with
    | false=>rfl
    | true=>
     have hn:=yZb hc;rw[if_pos rfl];simp only[cond_true];rw[beq_eq_false_iff_ne.2 hn];simp only[cond_false];rw[kla (by simp;omega)];rfl
   rw[vpb hs (by omega)];have e0:(bif zNa c then some (((s.2.length - 1:Nat):Int),decide ((0:Int)<=((s.2.length - 1:Nat):Int))) else some (((s.2.length - 1:Nat):Int),false))=some (((s.2.length - 1:Nat):Int),zNa c):=by
    cases zNa c with
    | false=>rfl
    | true=>simp only[cond_true];rw[decide_eq_true (by omega)]
   rw[e0];simp only[Option.bind_some];cases hbl:zNa c with
   | true=>
    rw[if_pos ⟨rfl,hs⟩];obtain ⟨f,hf,hm⟩:=W1a hs;have hv:=h3 f hm;simp only[cond_true];rw[wCa,hf];simp only[Option.bind_some];rw[yTa (by omega)];simp only[Option.bind_some];unfold K8a;rw[hf];rfl
   | false=>
    rw[if_neg (by simp)];simp only[cond_false];rw[Jfa _ (by omega)];simp only[Option.bind_some];cases hc:(colP (c::t)).2.2 with
    | false=>rfl
    | true=>
     have hn:=yZb hc;rw[if_pos rfl];simp only[cond_true];rw[beq_eq_false_iff_ne.2 hn];simp only[cond_false];rw[kla (by simp;omega)];rfl
 rw[if_neg hl,decide_eq_false (by omega)];rfl
def yga(b:List UInt8):Nat × List zia:=qGb (wEa b) (0,[]) (b.length+1) (0,[])
theorem hinv0(b:List UInt8):HInv b (0,[]):=⟨Nat.zero_le _,Nat.le_refl _,fun f hf=>by cases hf⟩
theorem W3a(b:List UInt8):HInv b (yga b):=kjb (wEa b) (0,[]) (HInv b) (HInv b) (fun s=>b.length - s.1) (fun s hs=>W2a hs) _ _ (hinv0 b) (by show b.length - 0 < _;omega)
theorem kkb(b:List UInt8)(hb:b.length<=12000):iter (vya b) ((0,([]:List zia)))=some (encH (yga b))/\iter (wOa b) ((0,([]:List zia)))=some (encH (yga b)):=
 ⟨QCa encH encH (wEa b) (0,[]) (HInv b) (fun s=>b.length - s.1) (fun s hs=>⟨y2b b hb s hs,(W2a hs).1⟩) _ (0,[]) (hinv0 b) (by show b.length - 0 < _;omega),
  QCa encH encH (wEa b) (0,[]) (HInv b) (fun s=>b.length - s.1) (fun s hs=>⟨ref_body b hb s hs,(W2a hs).1⟩) _ (0,[]) (hinv0 b) (by show b.length - 0 < _;omega)⟩
def wda(f:zia):zia:=⟨f.Name,Zra f.Value⟩
def mixF(l:List zia)(i:Nat):List zia:=(l.take i).map wda++l.drop i
theorem y3b{l:List zia}{i:Nat}{x:zia}(h:l[i]? =some x):(mixF l i)[i]? =some x:=by
 have hi:=(List.getElem?_eq_some_iff.1 h).1;unfold mixF;rw[List.getElem?_append_right (by simp;omega)];simp only[List.length_map,List.length_take,List.getElem?_drop];rw[show i+(i - min i l.length)=i by omega];exact h
theorem vqb(l:List zia)(i:Nat):(mixF l i).length=l.length:=by simp[mixF];omega
theorem klb{l:List zia}{i:Nat}{x:zia}(h:l[i]? =some x):(mixF l i).set i (wda x)=mixF l (i+1):=by
 have hi:=(List.getElem?_eq_some_iff.1 h).1;have hx:=(List.getElem?_eq_some_iff.1 h).2;unfold mixF;rw[List.set_append_right _ _ (by simp;omega)];simp only[List.length_map,List.length_take];rw[show i - min i l.length=0 by omega,List.take_add_one,h,List.drop_eq_getElem_cons hi,hx];simp
theorem vrb(l:List zia):mixF l l.length=l.map wda:=by simp[mixF]
theorem kmb(l:List zia):mixF l 0=l:=by simp[mixF]
def y4b(l:List zia)(i:Nat):Nat ⊕ Option Nat:=match l[i]? with
 | some f=>if 4000 < (Zra f.Value).length then .inr (some i) else .inl (i+1)
 | none=>.inr none
def vout(l:List zia):Option Nat->(List zia) ⊕ ((List zia) × Int × zra)
 | none=>.inl (l.map wda)
 | some i=>.inr ([],0,⟨1,(i:Int)⟩)
def valsP(l:List zia):Option Nat:=qGb (y4b l) none (l.length+1) 0
theorem y5b(p:Int × List zia)(hl:p.2.length<=1048576)(hv:∀f∈p.2,f.Value.length<=1048576):iter (vza p) ((0,p.2))=some (vout p.2 (valsP p.2)):=by
 have h:=QCa (fun i:Nat=>((i:Int),mixF p.2 i)) (vout p.2) (y4b p.2) none (fun i=>i<=p.2.length) (fun i=>p.2.length - i) (body:=vza p) (fun i hi=>?_) (p.2.length+1) 0 (Nat.zero_le _) (by omega)
 .rw[kmb]at h;exact h
 unfold vza y4b;cases hf:p.2[i]? with
 | none=>
  have:i=p.2.length:=by have:=List.getElem?_eq_none_iff.1 hf;omega
  subst this;dsimp only;rw[decide_eq_false (by omega),vrb];exact ⟨rfl,fun s' e=>by cases e⟩
 | some f=>
  have hi2:=zLa hf;have hfv:=hv f (List.mem_of_getElem? hf);dsimp only;rw[decide_eq_true (by omega),zCa (y3b hf)];simp only[cond_true,Option.bind_some];have ht:=Trim_eq f.Value hfv;have hlt:(Zra f.Value).length<=1048576:=Nat.le_trans (Jha _) hfv;cases hr:zVa f.Value with
  | none=>rw[hr]at ht;cases ht
  | some v=>
   rw[hr]at ht;simp only[Option.bind_some]at ht ⊢;rw[ht];simp only[Option.bind_some];by_cases h4:4000 < (Zra f.Value).length
   .rw[if_pos h4,decide_eq_true (by omega)];exact ⟨rfl,fun s' e=>by cases e⟩
   rw[if_neg h4,decide_eq_false (by omega)];simp only[cond_false];rw[sc i (by omega),Int.toNat_natCast];refine ⟨?_,fun s' e=>by cases e;exact ⟨by omega,by omega⟩⟩;rw[show (⟨f.Name,Zra f.Value⟩:zia)=wda f from rfl,klb hf];rfl
theorem vals_ref(l:List zia)(hl:l.length<=1048576)(hv:∀f∈l,f.Value.length<=1048576):iter (wPa) ((0,l))=some (l.map wda):=by
 have h:=QCa (fun i:Nat=>((i:Int),mixF l i)) (fun _:Unit=>l.map wda) (fun i=>if i < l.length then .inl (i+1) else .inr ()) () (fun i=>i<=l.length) (fun i=>l.length - i) (body:=wPa) (fun i hi=>?_) (l.length+1) 0 (Nat.zero_le _) (by omega)
 .rw[kmb]at h;exact h
 unfold wPa;by_cases hi2:i < l.length
 .have hf:l[i]? =some l[i]:=List.getElem?_eq_getElem hi2;rw[if_pos hi2];dsimp only;rw[vqb,decide_eq_true (by omega),zCa (y3b hf)];simp only[cond_true,Option.bind_some];rw[khb _ (hv _ (List.getElem_mem _))];simp only[Option.bind_some];rw[sc i (by omega),Int.toNat_natCast];refine ⟨?_,fun s' e=>by cases e;exact ⟨by omega,by omega⟩⟩;rw[show (⟨l[i].Name,Zra l[i].Value⟩:zia)=wda l[i] from rfl,klb hf];rfl
 rw[if_neg hi2];obtain rfl:i=l.length:=by omega
 dsimp only;rw[vqb,decide_eq_false (by omega),vrb];exact ⟨rfl,fun s' e=>by cases e⟩
theorem wmb(l:List zia):(valsP l=none->∀f∈l,(wda f).Value.length<=4000)/\(valsP l≠none->∃f∈l,4000 < (wda f).Value.length):=by
 refine kjb (y4b l) none (fun i=>i<=l.length/\∀j f,j < i->l[j]? =some f->(wda f).Value.length<=4000) (fun r=>(r=none->∀f∈l,(wda f).Value.length<=4000)/\(r≠none->∃f∈l,4000 < (wda f).Value.length)) (fun i=>l.length - i) ?_ _ 0 ⟨Nat.zero_le _,fun j f h=>by omega⟩ (by omega);rintro i ⟨hi,hj⟩;unfold y4b;cases hf:l[i]? with
 | none=>
  refine ⟨fun s' e=>(by cases e),fun r e=>?_⟩;cases e;refine ⟨fun _ f hm=>?_,fun h=>absurd rfl h⟩;obtain ⟨j,hjf⟩:=List.getElem?_of_mem hm;have:=List.getElem?_eq_none_iff.1 hf;exact hj j f (by have:=zLa hjf;omega) hjf
 | some f=>
  dsimp only;by_cases h4:4000 < (Zra f.Value).length
  .rw[if_pos h4];refine ⟨fun s' e=>(by cases e),fun r e=>?_⟩;cases e;exact ⟨fun h=>(by cases h),fun _=>⟨f,List.mem_of_getElem? hf,h4⟩⟩
  rw[if_neg h4];refine ⟨fun s' e=>?_,fun r e=>by cases e⟩;cases e;have:=zLa hf;refine ⟨⟨by omega,fun j g hji hg=>?_⟩,by omega⟩;by_cases e:j=i
  .subst e;rw[hf]at hg;cases hg;exact Nat.le_of_not_lt h4
  exact hj j g (by omega) hg
def zeroM:zxa:=⟨[],[]⟩
def rawM(b:List UInt8):zxa:=⟨(yga b).2.map wda,Zha (b.drop (yga b).1).length (b.drop (yga b).1)⟩
def yWa(b:List UInt8):zxa × Bool:=
 if 60 < (yga b).2.length then (zeroM,false) else if (msgF (rawM b)).Code=0 then (rawM b,true) else (zeroM,false)
theorem Vka(b:List UInt8)(hb:b.length<=12000):Jba (rawM b):=by
 obtain ⟨h1,h2,h3⟩:=W3a b;refine ⟨⟨by show ((yga b).2.map wda).length<=_;simp;omega,fun f hf=>?_⟩,?_⟩
 .have hf:f∈(yga b).2.map wda:=hf;obtain ⟨g,hg,rfl⟩:=List.mem_map.1 hf;have:=h3 g hg;have h4:=Jha g.Value;show g.Name.length<=_/\(Zra g.Value).length<=_;omega
 show (Zha _ _).length<=_;have:=WZa (b.drop (yga b).1).length (b.drop (yga b).1);simp at this ⊢;omega
theorem YGa(b:List UInt8)(hb:b.length<=12000):K0a b=some (yWa b):=by
 obtain ⟨h1,h2,h3⟩:=W3a b;unfold K0a;rw[(kkb b hb).2];simp only[Option.bind_some,encH];unfold yWa;by_cases h60:60 < (yga b).2.length
 .rw[if_pos h60,decide_eq_true (by omega)];rfl
 rw[if_neg h60,decide_eq_false (by omega)];simp only[cond_false];rw[vals_ref _ (by omega) (fun f hf=>by have:=h3 f hf;omega)];simp only[Option.bind_some];rw[y1b b (by omega) _ h1];simp only[Option.bind_some];rw[show (⟨(yga b).2.map wda,Zha (b.drop (yga b).1).length (b.drop (yga b).1)⟩:zxa)=rawM b from rfl,Vfa _ (Vka b hb)];simp only[Option.bind_some];by_cases h0:(msgF (rawM b)).Code=0
 .rw[if_pos h0,h0];rfl
 rw[if_neg h0,bne_iff_ne.2 h0];rfl
theorem W4a(b:List UInt8)(hb:b.length<=12000):∃f:zra,w5a b=some ((yWa b).1,f)/\(f.Code !=0)= !(yWa b).2:=by
 obtain ⟨h1,h2,h3⟩:=W3a b;unfold w5a Zaa;rw[decide_eq_false (by omega),(kkb b hb).1];simp only[cond_false,Option.bind_some,encH];unfold yWa;by_cases h60:60 < (yga b).2.length
 .rw[if_pos h60,decide_eq_true (by omega)];exact ⟨⟨2, -2⟩,rfl,rfl⟩
 rw[if_neg h60,decide_eq_false (by omega)];simp only[cond_false];rw[y5b ((((yga b).1:Nat):Int),(yga b).2) (by show (yga b).2.length<=_;omega) (fun f hf=>by have:=h3 f hf;omega)];simp only[Option.bind_some];obtain ⟨v1,v2⟩:=wmb (yga b).2;cases hv:valsP (yga b).2 with
 | none=>
  simp only[vout,Sum.elim_inl,kAa,Option.bind_some,zQa];rw[show ((0:Int) !=0)=false from rfl];simp only[cond_false];rw[jha h1];simp only[Option.bind_some];rw[VWa _ (by simp;omega)];simp only[Option.bind_some];rw[show (⟨(yga b).2.map wda,Zha (b.drop (yga b).1).length (b.drop (yga b).1)⟩:zxa)=rawM b from rfl,vOa _ (Vka b hb)];simp only[Option.bind_some];by_cases h0:(msgF (rawM b)).Code=0
  .rw[if_pos h0,h0];exact ⟨⟨0,0⟩,rfl,rfl⟩
  rw[if_neg h0,bne_iff_ne.2 h0];exact ⟨msgF (rawM b),rfl,by rw[bne_iff_ne.2 h0];rfl⟩
 | some i=>
  have h0:¬(msgF (rawM b)).Code=0:=by
   intro h0;obtain ⟨f,hf,h4⟩:=v2 (by rw[hv];simp);have hh:(Zza (rawM b).Fields).Code=0:=by
    by_cases hz:(Zza (rawM b).Fields).Code=0
    .exact hz
    unfold msgF at h0;rw[if_pos (by simp[hz])]at h0;exact h0
   have:=(zib ((jSa _ hh).2.2 (wda f) (List.mem_map.2 ⟨f,hf,rfl⟩))).2.1;omega
  rw[if_neg h0];exact ⟨⟨1,(i:Int)⟩,rfl,rfl⟩
theorem kxa{u:Nat}(h:u < 10):Lib.decDigits u=[UInt8.ofNat (48+u)]:=by rw[Lib.decDigits,dif_pos h]
theorem Kpa{u:Nat}(h:¬u < 10):Lib.decDigits u=Lib.decDigits (u / 10)++Lib.decDigits (u % 10):=by
 rw[Lib.decDigits,dif_neg h,kxa (show u % 10 < 10 by omega)]
theorem Kqa:∀(k u:Nat),u < 10 ^ (k+1)->(Lib.decDigits u).length<=k+1
 | 0,u,h=>by rw[kxa (by simpa using h)];simp
 | k+1,u,h=>by
  by_cases h10:u < 10
  .rw[kxa h10];simp
  have:=Kqa k (u / 10) (by rw[Nat.pow_succ]at h;omega);rw[Kpa h10,kxa (show u % 10 < 10 by omega)];simp;omega
theorem zpb(u:Nat):1<=(Lib.decDigits u).length:=by
 by_cases h10:u < 10
 .rw[kxa h10];simp
 rw[Kpa h10,kxa (show u % 10 < 10 by omega)];simp
theorem iQuo10{u:Nat}(h:u<=9223372036854775807):iQuo (u:Int) 10=((u / 10:Nat):Int):=by
 unfold iQuo;rw[Int.tdiv_eq_ediv_of_nonneg (by omega),qja (by omega) (by omega)];omega
theorem iRem10(u:Nat):iRem (u:Int) 10=((u % 10:Nat):Int):=by
 unfold iRem;rw[Int.tmod_eq_emod_of_nonneg (by omega)];omega
theorem y6b:∀u:Fin 10,cut ([48,49,50,51,52,53,54,55,56,57]:Str) (u.val:Int) (w64 ((u.val:Int)+1))=some [UInt8.ofNat (48+u.val)]:=by decide
theorem kIa{f g:Int->Option Str}(hf:∀n:Int,f n=bif decide (n < 10) then (cut ([48,49,50,51,52,53,54,55,56,57]:Str) n (w64 (n+1))).bind fun v2=>some v2 else (g (iQuo n 10)).bind fun v4=>(g (iRem n 10)).bind fun v6=>(cat v4 v6).bind fun v8=>some v8)
 (k:Nat) (hk:k<=17) (hg:∀u:Nat,u < 10 ^ k->1<=k->g (u:Int)=some (Lib.decDigits u)) (u:Nat) (hu:u < 10 ^ (k+1)):f (u:Int)=some (Lib.decDigits u):=by
 have hp:10 ^ (k+1)<=10 ^ 18:=Nat.pow_le_pow_right (by omega) (by omega);rw[hf];by_cases h10:u < 10
 .rw[decide_eq_true (by omega:(u:Int) < 10),cond_true,y6b ⟨u,h10⟩,kxa h10];rfl
 have hk1:1<=k:=by
  rcases Nat.eq_zero_or_pos k with rfl | h
  .simp at hu;omega
  exact h
 have h9:10 ^ 1<=10 ^ k:=Nat.pow_le_pow_right (by omega) hk1;rw[decide_eq_false (by omega:¬(u:Int) < 10),cond_false,iQuo10 (by omega),iRem10,hg _ (by rw[Nat.pow_succ]at hu;omega) hk1,hg _ (by omega) hk1,Kpa h10];have h1:=Kqa 17 (u / 10) (by omega);have h2:=Kqa 17 (u % 10) (by omega);simp only[Option.bind_some];rw[yTa (by omega)];rfl
theorem K9a(u:Nat)(h:u < 10 ^ 12):wNa (u:Int)=some (Lib.decDigits u):=by
 have h1:=kIa (f:=yJa) (g:=yIa) (fun _=>rfl) 0 (by omega) (fun _ _ h=>by omega);have h2:=kIa (f:=yKa) (fun _=>rfl) 1 (by omega) (fun u hu _=>h1 u hu);have h3:=kIa (f:=yLa) (fun _=>rfl) 2 (by omega) (fun u hu _=>h2 u hu);have h4:=kIa (f:=yMa) (fun _=>rfl) 3 (by omega) (fun u hu _=>h3 u hu);have h5:=kIa (f:=yNa) (fun _=>rfl) 4 (by omega) (fun u hu _=>h4 u hu);have h6:=kIa (f:=yOa) (fun _=>rfl) 5 (by omega) (fun u hu _=>h5 u hu);have h7:=kIa (f:=yPa) (fun _=>rfl) 6 (by omega) (fun u hu _=>h6 u hu);have h8:=kIa (f:=yQa) (fun _=>rfl) 7 (by omega) (fun u hu _=>h7 u hu);have h9:=kIa (f:=yRa) (fun _=>rfl) 8 (by omega) (fun u hu _=>h8 u hu);have h10:=kIa (f:=wYa) (fun _=>rfl) 9 (by omega) (fun u hu _=>h9 u hu);have h11:=kIa (f:=wZa) (fun _=>rfl) 10 (by omega) (fun u hu _=>h10 u hu);exact kIa (f:=wNa) (fun _=>rfl) 11 (by omega) (fun u hu _=>h11 u hu) u h
theorem ZUa(u:Nat)(h:u<=9223372036854775807):z5a (u:Int)=some (Lib.decDigits u):=by
 unfold z5a;rw[if_pos (by omega),Lib.itoa_nonneg]
theorem ZVa(b:UInt8):∀(l:Str) (acc:Nat),Lib.decFrom acc (l++ [b])=(Lib.decFrom acc l).bind fun n=>(Lib.digitVal b).map fun d=>n * 10+d
 | [],acc=>by
  simp only[List.nil_append,Lib.decFrom,Option.bind_some];cases Lib.digitVal b <;> rfl
 | x::l,acc=>by
  rw[List.cons_append,Lib.decFrom,Lib.decFrom];cases Lib.digitVal x with
  | none=>rfl
  | some d=>exact ZVa b l _
theorem jBa{d:Nat}(h:d < 10):Lib.digitVal (UInt8.ofNat (48+d))=some d:=by
 have e:(UInt8.ofNat (48+d)).toNat=48+d:=by rw[UInt8.toNat_ofNat'];omega
 unfold Lib.digitVal;rw[e,if_pos (by omega)]
 congr 1;omega
theorem W5a:∀(k u:Nat),u < 10 ^ (k+1)->Lib.decFrom 0 (Lib.decDigits u)=some u
 | 0,u,h=>by
  rw[kxa (by simpa using h),Lib.decFrom,jBa (show u < 10 by simpa using h)];simp[Lib.decFrom]
 | k+1,u,h=>by
  by_cases h10:u < 10
  .rw[kxa h10,Lib.decFrom,jBa h10];simp[Lib.decFrom]
  rw[Kpa h10,kxa (show u % 10 < 10 by omega),ZVa,W5a k (u / 10) (by rw[Nat.pow_succ]at h;omega),jBa (by omega)];simp;omega
theorem Qaa(u:Nat):Lib.decFrom 0 (Lib.decDigits u)=some u:=by
 refine W5a u u<|Nat.lt_of_lt_of_le (Nat.lt_pow_self (by omega)) (Nat.pow_le_pow_right (by omega) (by omega))
theorem decD_ne(u:Nat):Lib.decDigits u≠ []:=by
 intro h;have:=zpb u;rw[h]at this;simp at this
theorem Kra(u:Nat):Lib.decNat (Lib.decDigits u)=some u:=by
 unfold Lib.decNat;have:(Lib.decDigits u).isEmpty=false:=by
  cases h:Lib.decDigits u with
  | nil=>exact absurd h (decD_ne u)
  | cons x l=>rfl
 rw[this];exact Qaa u
theorem W6a(u:Nat):∃(d:Nat) (r:Str),d < 10/\Lib.decDigits u=UInt8.ofNat (48+d)::r/\(10<=u->1<=d)/\(u < 10->r=[]):=by
 induction u using Nat.strongRecOn with
 | _ u ih=>
  by_cases h10:u < 10
  .exact ⟨u,[],h10,kxa h10,by omega,fun _=>rfl⟩
  obtain ⟨d,r,h1,h2,h3,h4⟩:=ih (u / 10) (by omega);refine ⟨d,r++Lib.decDigits (u % 10),h1,by rw[Kpa h10,h2];rfl,fun _=>?_,by omega⟩;by_cases h5:10<=u / 10
  .exact h3 h5
  have h6:=kxa (show u / 10 < 10 by omega);rw[h2]at h6;injection h6 with h7 _
  have h8:=congrArg UInt8.toNat h7;rw[UInt8.toNat_ofNat',UInt8.toNat_ofNat']at h8;omega
theorem qHb(u:Nat):∀c∈Lib.decDigits u,48<=c.toNat/\c.toNat<=57:=by
 intro c hc;obtain ⟨k,hk⟩:=List.mem_iff_getElem?.1 hc;obtain ⟨d,hd⟩:=Lib.digit_of_decFrom _ _ _ (Qaa u) k c hk;have:=Lib.digitVal_eq hd;omega
theorem Jia:∀(l:Str) (acc n:Nat),Lib.decFrom acc l=some n->acc<=n
 | [],acc,n,h=>by simp[Lib.decFrom]at h;omega
 | x::l,acc,n,h=>by
  rw[Lib.decFrom]at h;cases hd:Lib.digitVal x with
  | none=>rw[hd]at h;cases h
  | some d=>
   rw[hd]at h;have:=Jia l _ n h;omega
theorem knb:∀(k:Nat) (s:Str) (m:Nat),s.length=k->Lib.decFrom 0 s=some m->s≠ []->(s.length=1∨s.head? ≠some 48)->Lib.decDigits m=s
 | 0,s,m,hk,h,hne,_=>absurd (List.length_eq_zero_iff.1 hk) hne
 | k+1,s,m,hk,h,hne,hz=>by
  obtain ⟨t,b,rfl⟩:∃t b,s=t++ [b]:=⟨s.dropLast,s.getLast hne,(List.dropLast_concat_getLast hne).symm⟩;rw[ZVa]at h;cases ht:Lib.decFrom 0 t with
  | none=>rw[ht]at h;cases h
  | some n=>
   rw[ht]at h;cases hb:Lib.digitVal b with
   | none=>rw[hb]at h;cases h
   | some d=>
    rw[hb]at h;simp only[Option.bind_some,Option.map_some,Option.some.injEq]at h;subst h;obtain ⟨h1,h2,h3⟩:=Lib.digitVal_eq hb;have hbe:UInt8.ofNat (48+d)=b:=by
     rw[<-UInt8.toNat_inj,UInt8.toNat_ofNat'];omega
    cases t with
    | nil=>
     simp[Lib.decFrom]at ht;subst ht;rw[Nat.zero_mul,Nat.zero_add,kxa (by omega),hbe];rfl
    | cons x t=>
     have hx:x≠48:=by
      rcases hz with hz | hz
      .simp at hz
      intro e;subst e;simp at hz
     have hn1:1<=n:=by
      rw[Lib.decFrom]at ht;cases hx2:Lib.digitVal x with
      | none=>rw[hx2]at ht;cases ht
      | some e=>
       rw[hx2]at ht;have h4:=Jia t _ n ht;obtain ⟨h5,h6,h7⟩:=Lib.digitVal_eq hx2;have:x.toNat≠48:=fun e2=>hx (UInt8.toNat_inj.1 e2)
       omega
     have ih:=knb k (x::t) n (by simp at hk ⊢;omega) ht (by simp) (.inr (by simpa using hx));rw[Kpa (by omega),show (n * 10+d) / 10=n by omega,show (n * 10+d) % 10=d by omega,ih,kxa (by omega),hbe]
theorem vsb(m:Nat):Lib.atoi (Lib.decDigits m)=some (m:Int):=by
 obtain ⟨d,r,h1,h2,_⟩:=W6a m;have e45:(UInt8.ofNat (48+d)==45)=false:=by
  rw[beq_eq_false_iff_ne];intro e;have:=congrArg UInt8.toNat e;rw[UInt8.toNat_ofNat']at this;have h45:(45:UInt8).toNat=45:=rfl;omega
 have e43:(UInt8.ofNat (48+d)==43)=false:=by
  rw[beq_eq_false_iff_ne];intro e;have:=congrArg UInt8.toNat e;rw[UInt8.toNat_ofNat']at this;have h43:(43:UInt8).toNat=43:=rfl;omega
 have hd:=Kra m;rw[h2]at hd ⊢;unfold Lib.atoi;dsimp only;rw[e45,e43,hd];rfl
def numP(s:Str):Option Nat:=if s.length<=9 then (match Lib.decNat s with | some m=>if Lib.decDigits m=s then some m else none | none=>none) else none
theorem W7a{s:Str}{m:Nat}(h:numP s=some m):s.length<=9/\Lib.decDigits m=s/\m < 1000000000:=by
 unfold numP at h;split at h
 .rename_i h9;split at h
  .rename_i n hn;split at h
   .rename_i he;cases h;have h1:=Lib.decFrom_lt _ _ _ (Lib.decNat_some hn).2;have h2:10 ^ s.length<=10 ^ 9:=Nat.pow_le_pow_right (by omega) h9;exact ⟨h9,he,by omega⟩
   cases h
  cases h
 cases h
theorem numP_dec{m:Nat}(h:m < 1000000000):numP (Lib.decDigits m)=some m:=by
 unfold numP;rw[if_pos (Kqa 8 m (by omega)),Kra];simp
theorem W8a(s:Str)(h9:s.length<=9):w1a s 999999999=some (match numP s with | some m=>((m:Int),true) | none=>(0,false)):=by
 have hlen:s.length<=18:=by omega
 unfold w1a q4a;rw[if_pos hlen];have noneCase:(∀m,s≠Lib.decDigits m)->numP s=none:=by
  intro hno;cases hm:numP s with
  | none=>rfl
  | some m=>exact absurd (W7a hm).2.1.symm (hno m)
 cases ha:Lib.atoi s with
 | none=>
  have:numP s=none:=by
   refine noneCase fun m hm=>?_
   have h3:Lib.atoi s=some (m:Int):=by rw[hm];exact vsb m
   rw[h3]at ha;cases ha
  rw[this];rfl
 | some n=>
  obtain ⟨b0,r,hs,hc⟩:=Lib.atoi_cases ha;have hbig: -1000000000000000000 < n/\n < 1000000000000000000:=by
   rcases hc with ⟨_,m,_,hm,rfl⟩ | ⟨_,m,_,hm,rfl⟩ | ⟨_,_,m,hm,rfl⟩
   .have:=Lib.decFrom_lt18 hm (by rw[hs]at hlen;simp at hlen;omega);omega
   .have:=Lib.decFrom_lt18 hm (by rw[hs]at hlen;simp at hlen;omega);omega
   have:=Lib.decFrom_lt18 hm (by rw[<-hs];exact hlen);omega
  simp only[Option.bind_some,cond_false];unfold z5a;rw[if_pos (by omega)];simp only[Option.bind_some];by_cases hi:Lib.itoa n=s
  .have:(Lib.itoa n !=s)=false:=by simp[hi]
   rw[this];simp only[cond_false];by_cases hn:n < 0
   .rw[decide_eq_true hn];have:numP s=none:=by
     refine noneCase fun m hm=>?_
     unfold Lib.itoa at hi;rw[if_pos hn]at hi;obtain ⟨d,r',h1,h2,_⟩:=W6a m;rw[hm,h2]at hi;injection hi with h3 _
     have:=congrArg UInt8.toNat h3;rw[UInt8.toNat_ofNat']at this;simp at this;omega
    rw[this];rfl
   rw[decide_eq_false hn];unfold Lib.itoa at hi;rw[if_neg hn]at hi;have hlt:n.toNat < 1000000000:=by
    have h1:=Lib.decFrom_lt _ _ _ (Qaa n.toNat);rw[hi]at h1;have h2:10 ^ s.length<=10 ^ 9:=Nat.pow_le_pow_right (by omega) h9;omega
   have hP:numP s=some n.toNat:=by rw[<-hi];exact numP_dec hlt
   rw[hP];simp only[cond_false];rw[decide_eq_false (by omega)];simp only[cond_false,Option.bind_some];rw[show ((n.toNat:Nat):Int)=n by omega]
  have:(Lib.itoa n !=s)=true:=by simpa using hi
  rw[this];have hP:numP s=none:=by
   refine noneCase fun m hm=>hi ?_
   have h3:Lib.atoi s=some (m:Int):=by rw[hm];exact vsb m
   rw[ha]at h3;cases h3;rw[Lib.itoa_nonneg,hm]
  rw[hP];rfl
theorem W9a(s:Str)(hs:s.length<=9):∀(r p:Str) (acc:Nat),s=p++r->acc < 10 ^ p.length->iter (wza s) ((acc:Int),(p.length:Int))=some (match Lib.decFrom acc r with | some m=>.inl (m:Int) | none=>.inr (-1))
 | [],p,acc,h,ha=>by
  rw[List.append_nil]at h;subst h;refine zAa ?_;unfold wza;dsimp only;rw[zMa];rfl
 | x::r,p,acc,h,ha=>by
  have hp:p.length<=8:=by have:=congrArg List.length h;simp at this;omega
  have hpw:10 ^ p.length<=10 ^ 8:=Nat.pow_le_pow_right (by omega) hp;have hx:s[p.length]? =some x:=by rw[h];simp
  have hin:R_In (x.toNat:Int) 48 57=some (decide (48<=x.toNat) && decide (x.toNat<=57)):=by
   rw[vMa]
   congr 2 <;> (rw[Bool.eq_iff_iff,decide_eq_true_eq,decide_eq_true_eq];omega)
  by_cases hd:48<=x.toNat/\x.toNat<=57
  .have hv:Lib.digitVal x=some (x.toNat - 48):=by unfold Lib.digitVal;rw[if_pos hd]
   have h2:(x - 48).toNat=x.toNat - 48:=UInt8.toNat_sub_of_le x 48 (by rw[UInt8.le_iff_toNat_le];exact hd.1);have wEa:wza s ((acc:Int),(p.length:Int))=some (.cont (((acc * 10+(x.toNat - 48):Nat):Int),((p.length+1:Nat):Int))):=by
    unfold wza;dsimp only;rw[koa hx,zCa hx];simp only[cond_true,Option.bind_some,hin];rw[decide_eq_true hd.1,decide_eq_true hd.2,h2];have e1:w64 (10 * (acc:Int))=10 * (acc:Int):=qja (by omega) (by omega);simp only[Bool.and_true,Bool.not_true,cond_false,sc p.length (by omega)];rw[e1,qja (by omega) (by omega)]
    congr 3
    omega
   rw[zOa wEa];have:=W9a s hs r (p++ [x]) (acc * 10+(x.toNat - 48)) (by simp[h]) (by simp[Nat.pow_succ];omega);simp only[List.length_append,List.length_cons,List.length_nil]at this;rw[show 0+1=1 from rfl]at this;rw[this,Lib.decFrom,hv]
  have hv:Lib.digitVal x=none:=by unfold Lib.digitVal;rw[if_neg hd]
  have hb:(decide (48<=x.toNat) && decide (x.toNat<=57))=false:=by
   cases h1:decide (48<=x.toNat) && decide (x.toNat<=57) with
   | false=>rfl
   | true=>simp only[Bool.and_eq_true,decide_eq_true_eq]at h1;exact absurd h1 hd
  rw[Lib.decFrom,hv];refine zAa ?_;unfold wza;dsimp only;rw[koa hx,zCa hx];simp only[cond_true,Option.bind_some,hin,hb];rfl
theorem Zia(s:Str)(hs:s.length<=1048576):Wha s=some (match numP s with | some m=>(m:Int) | none=> -1):=by
 unfold Wha;rw[vMa];by_cases h9:1<=s.length/\s.length<=9
 .have e:(decide ((1:Int)<=(s.length:Int)) && decide ((s.length:Int)<=9))=true:=by simp;omega
  rw[e];simp only[Option.bind_some,Bool.not_true,cond_false];cases s with
  | nil=>simp at h9
  | cons x r=>
   have e0:idx (x::r) 0=some x:=rfl;rw[e0];simp only[Option.bind_some,qJa x 48 (by decide)];have loop:=W9a (x::r) h9.2 (x::r) [] 0 rfl (by simp);rw[show (((0:Nat):Int),(([]:Str).length:Int))=((0:Int),(0:Int)) from rfl]at loop;rw[loop];by_cases hz:1 < (x::r).length/\x=48
   .obtain ⟨h1,rfl⟩:=hz;rw[decide_eq_true (by omega)];have hP:numP (48::r)=none:=by
     cases hm:numP (48::r) with
     | none=>rfl
     | some m=>
      obtain ⟨_,h2,_⟩:=W7a hm;obtain ⟨d,r',h3,h4,h5,h6⟩:=W6a m;rw[h2]at h4;injection h4 with h7 h8
      have h9' :=congrArg UInt8.toNat h7;rw[UInt8.toNat_ofNat']at h9';have hd0:d=0:=by
       have:(48:UInt8).toNat=48:=rfl;omega
      by_cases h10:10<=m
      .have:=h5 h10;omega
      have:=h6 (by omega);rw[h8]at h1;rw[this]at h1;simp at h1
    rw[hP];rfl
   have e1:(bif decide ((1:Int) < (((x::r).length:Nat):Int)) then some (x==48) else some false)=some false:=by
    by_cases h1:1 < (x::r).length
    .have hx:x≠48:=fun e=>hz ⟨h1,e⟩
     rw[decide_eq_true (by omega)];simpa using hx
    rw[decide_eq_false (by omega)];rfl
   rw[e1];simp only[Option.bind_some,cond_false];have hd:Lib.decNat (x::r)=Lib.decFrom 0 (x::r):=rfl;unfold numP;rw[if_pos h9.2,hd];cases hm:Lib.decFrom 0 (x::r) with
   | none=>rfl
   | some m=>
    have hc:=knb _ (x::r) m rfl hm (by simp) (by
     by_cases h1:(x::r).length=1
     .exact .inl h1
     right;have hx:x≠48:=fun e=>hz ⟨by have:(x::r).length=r.length+1:=rfl;omega,e⟩
     simpa using hx)
    simp only[hc,if_true];rfl
 have e:(decide ((1:Int)<=(s.length:Int)) && decide ((s.length:Int)<=9))=false:=by
  cases h1:decide ((1:Int)<=(s.length:Int)) && decide ((s.length:Int)<=9) with
  | false=>rfl
  | true=>simp at h1;exact absurd ⟨by omega,by omega⟩ h9
 rw[e];have hP:numP s=none:=by
  cases hm:numP s with
  | none=>rfl
  | some m=>
   obtain ⟨h1,h2,_⟩:=W7a hm;have:=zpb m;rw[h2]at this;exact absurd ⟨this,h1⟩ h9
 rw[hP];rfl
theorem wFa(s:Str):qLa s=some (match numP s with | some m=>((m:Int),true) | none=>(0,false)):=by
 unfold qLa;by_cases h9:s.length<=9
 .rw[decide_eq_false (by omega),W8a s h9];cases numP s <;> rfl
 rw[decide_eq_true (by omega)];have:numP s=none:=by unfold numP;rw[if_neg h9]
 rw[this];rfl
instance:DecidableEq zia:=fun a b=>decidable_of_iff (a.Name=b.Name/\a.Value=b.Value) (by cases a;cases b;simp)
instance:DecidableEq zxa:=fun a b=>decidable_of_iff (a.Fields=b.Fields/\a.Body=b.Body) (by cases a;cases b;simp)
instance:DecidableEq zwa:=fun a b=>decidable_of_iff (a.Envelope=b.Envelope/\a.Message=b.Message) (by cases a;cases b;simp)
theorem low_add(c:UInt8):c+97 - 65=c+32:=by
 rw[<-UInt8.toNat_inj];have:=c.toNat_lt;simp only[UInt8.toNat_add,UInt8.toNat_sub,UInt8.reduceToNat];omega
theorem Vla(s:Str)(hs:s.length<=1048576):WLa s=some (lowP s):=by
 unfold WLa lowP;have:=(yUa s (fun i (o:List UInt8)=>(i,o)) (fun o c=>o++ [lowC c]) id (fun i o=>o.length<=i) (body:=Kma s)
  (fun o _=>by unfold Kma;simp[zMa]) (fun i c o hx hi=>by
   have hlt:=zLa hx;refine ⟨?_,by simp;omega⟩;unfold Kma;dsimp only;rw[koa hx,zCa hx];simp only[cond_true,Option.bind_some,vMa,jia 65 c (by decide),jja 90 c (by decide),sc i (by omega)];have hl:((bif (decide ((65:UInt8)<=c) && decide (c<=90)) then some (c+32) else some c):Option UInt8)=some (lowC c):=by
    unfold lowC;rw[low_add];cases decide ((65:UInt8)<=c) && decide (c<=90) <;> rfl
   rw[hl];simp only[Option.bind_some];rw[kla (by simp;omega)];rfl) [] (by simp)).1
 rw[this,map_fold];simp
def vCa(c:UInt8):Str->List Str
 | []=>[[]]
 | b::r=>if b=c then []::vCa c r else match vCa c r with
  | x::l=>(b::x)::l
  | []=>[[b]]
theorem ZWa(c:UInt8)(s:Str):∃x l,vCa c s=x::l:=by
 cases s with
 | nil=>exact ⟨_,_,rfl⟩
 | cons b r=>
  unfold vCa;split
  .exact ⟨_,_,rfl⟩
  split <;> exact ⟨_,_,rfl⟩
theorem Yaa(c:UInt8)(r:Str):vCa c (c::r)=[]::vCa c r:=by rw[vCa,if_pos rfl]
theorem Qba{b c:UInt8}(h:b≠c){r x:Str}{l:List Str}(hr:vCa c r=x::l):vCa c (b::r)=(b::x)::l:=by
 rw[vCa,if_neg h,hr]
theorem kob(c:UInt8)(s:Str):(vCa c s).length<=s.length+1:=by
 induction s with
 | nil=>simp[vCa]
 | cons b r ih=>
  by_cases hb:b=c
  .subst hb;rw[Yaa];simp;omega
  obtain ⟨x,t,hx⟩:=ZWa c r;rw[hx]at ih;rw[Qba hb hx];simp at ih ⊢;omega
theorem wnb{c:UInt8}{s x:Str}(h:x∈vCa c s):x.length<=s.length:=by
 induction s generalizing x with
 | nil=>simp[vCa]at h;subst h;simp
 | cons b r ih=>
  by_cases hb:b=c
  .subst hb;rw[Yaa]at h;rcases List.mem_cons.1 h with rfl | h
   .simp
   have:=ih h;simp;omega
  obtain ⟨y,t,hy⟩:=ZWa c r;rw[Qba hb hy]at h;rcases List.mem_cons.1 h with rfl | h
  .have:=ih (x:=y) (by rw[hy];simp);simp;omega
  have:=ih (x:=x) (by rw[hy];simp[h]);simp;omega
def nonE(l:List Str):List Str:=l.filter fun x=> !x.isEmpty
def w9a(s:Str):List Str:=nonE (vCa 32 s)
def wrd(cur r:Str):List Str:=match vCa 32 r with
 | x::l=>nonE ((cur++x)::l)
 | []=>[]
theorem y7b(s:Str):wrd [] s=w9a s:=by
 unfold wrd w9a;obtain ⟨x,l,h⟩:=ZWa 32 s;rw[h];rfl
theorem y8b(cur:Str):wrd cur []=nonE [cur]:=by unfold wrd;simp[vCa]
theorem y9b(x:Str)(l:List Str):nonE (x::l)=nonE [x]++nonE l:=by unfold nonE;cases h:x.isEmpty <;> simp[h]
theorem wrd_sp(cur r:Str):wrd cur (32::r)=nonE [cur]++wrd [] r:=by
 obtain ⟨x,l,h⟩:=ZWa 32 r;have e:vCa 32 (32::r)=[]::x::l:=by rw[Yaa,h]
 unfold wrd;rw[e,h];show nonE ((cur++ [])::x::l)=nonE [cur]++nonE (([]++x)::l);rw[List.append_nil,y9b];rfl
theorem VKa{c:UInt8}:∀{k r x:Str} {l:List Str},c ∉ k->vCa c r=x::l->vCa c (k++r)=(k++x)::l
 | [],_,_,_,_,h=>h
 | b::k,r,x,l,hk,h=>by
  simp at hk;rw[List.cons_append,Qba (Ne.symm hk.1) (VKa hk.2 h)];rfl
theorem Yba{k:Str}(cur r:Str)(hk:(32:UInt8) ∉ k):wrd cur (k++r)=wrd (cur++k) r:=by
 obtain ⟨x,l,h⟩:=ZWa 32 r;unfold wrd;rw[VKa hk h,h];show nonE ((cur++(k++x))::l)=nonE ((cur++k++x)::l);rw[List.append_assoc]
theorem getB{l:Str}{i:Nat}(h:i < l.length):(strB l).get! i=l[i]:=by
 show (strB l).data[i]! =_;simp[strB,h]
theorem jab{l:Str}{i:Nat}(h:i < l.length):(l[i]=32->Utf8.decode (strB l) i=(32,1))/\
 (l[i]≠32->(Utf8.decode (strB l) i).1≠32/\1<=(Utf8.decode (strB l) i).2/\i+(Utf8.decode (strB l) i).2<=l.length/\∀k (hk:i+k < l.length),k < (Utf8.decode (strB l) i).2->l[i+k]≠32):=by
 have hz:(strB l).size=l.length:=rfl;have e0:(strB l).get! (i+0)=l[i]:=getB h;have hne:∀{u:UInt8},u.toNat / 64=2->u≠32:=fun hu e=>by subst e;exact absurd hu (by decide)
 constructor
 .intro h32;unfold Utf8.decode;simp only[e0,h32];rfl
 intro h32;have hb:l[i].toNat≠32:=fun e=>h32 (UInt8.toNat_inj.1 e)
 have d0:∀(n:Nat),n=1->∀k (hk:i+k < l.length),k < n->l[i+k]≠32:=by
  intro n hn k hk hkn;have:k=0:=by omega
  subst this;exact h32
 have gt:∀k,(decide (i+k < (strB l).size) && ((strB l).get! (i+k)).toNat / 64==2)=true->∃hk:i+k < l.length,l[i+k]≠32:=by
  intro k hk;simp only[Bool.and_eq_true,decide_eq_true_eq,beq_iff_eq,hz]at hk;refine ⟨hk.1,hne ?_⟩;rw[<-getB hk.1];exact hk.2
 unfold Utf8.decode;simp only[e0];split
 .exact ⟨hb,by simp,by simp;omega,d0 _ rfl⟩
 split
 .rename_i hc;simp only[Bool.and_eq_true]at hc;obtain ⟨h1,n1⟩:=gt 1 (by simpa using hc.2);try dsimp only
  split
  .refine ⟨by dsimp only;omega,by simp,by simp;omega,fun k hk hkn=>?_⟩;dsimp only at hkn;obtain rfl | rfl:k=0∨k=1:=by omega
   .exact h32
   exact n1
  exact ⟨by decide,by simp,by simp;omega,d0 _ rfl⟩
 split
 .rename_i hc;simp only[Bool.and_eq_true]at hc;obtain ⟨h1,n1⟩:=gt 1 (by simpa using hc.1.2);obtain ⟨h2,n2⟩:=gt 2 (by simpa using hc.2);try dsimp only
  split
  .rename_i hv;simp only[Bool.and_eq_true,decide_eq_true_eq]at hv;refine ⟨by dsimp only;omega,by simp,by simp;omega,fun k hk hkn=>?_⟩;dsimp only at hkn;obtain rfl | rfl | rfl:k=0∨k=1∨k=2:=by omega
   .exact h32
   .exact n1
   exact n2
  exact ⟨by decide,by simp,by simp;omega,d0 _ rfl⟩
 split
 .rename_i hc;simp only[Bool.and_eq_true]at hc;obtain ⟨h1,n1⟩:=gt 1 (by simpa using hc.1.1.2);obtain ⟨h2,n2⟩:=gt 2 (by simpa using hc.1.2);obtain ⟨h3,n3⟩:=gt 3 (by simpa using hc.2);try dsimp only
  split
  .rename_i hv;simp only[Bool.and_eq_true,decide_eq_true_eq]at hv;refine ⟨by dsimp only;omega,by simp,by simp;omega,fun k hk hkn=>?_⟩;dsimp only at hkn;obtain rfl | rfl | rfl | rfl:k=0∨k=1∨k=2∨k=3:=by omega
   .exact h32
   .exact n1
   .exact n2
   exact n3
  exact ⟨by decide,by simp,by simp;omega,d0 _ rfl⟩
 exact ⟨by decide,by simp,by simp;omega,d0 _ rfl⟩
def curP(l:Str)(pos:Nat):Option Nat->Str
 | none=>[]
 | some a=>(l.drop a).take (pos - a)
def exP(l:Str)(x:Nat × Nat):Str:=((strB l).extract x.1 x.2).data.toList
theorem exP_eq(l:Str)(a b:Nat):exP l (a,b)=(l.drop a).take (b - a):=by
 unfold exP;rw[Lib.extract_data];simp[strB]
theorem spans_eq(l:Str):∀(f pos:Nat) (st:Option Nat) (acc:List (Nat × Nat)),l.length<=pos+f->pos<=l.length->(∀a,st=some a->a < pos)->
 (Lib.closeSpans (strB l) (Lib.spansFromP sp32 (strB l) f pos st acc)).map (exP l)=acc.map (exP l)++wrd (curP l pos st) (l.drop pos):=by
 have fin:∀(pos:Nat) (st:Option Nat) (acc:List (Nat × Nat)),pos=l.length->(∀a,st=some a->a < pos)->(Lib.closeSpans (strB l) (acc,st)).map (exP l)=acc.map (exP l)++wrd (curP l pos st) (l.drop pos):=by
  intro pos st acc hp hst;subst hp;rw[List.drop_length,y8b];cases st with
  | none=>simp[Lib.closeSpans,curP,nonE]
  | some a=>
   have ha:=hst a rfl;have e:curP l l.length (some a)=l.drop a:=by show (l.drop a).take (l.length - a)=_;rw[List.take_of_length_le (by simp)]
   rw[e];have hne:(l.drop a).isEmpty=false:=by
    cases hd:l.drop a with
    | nil=>have:=congrArg List.length hd;simp at this;omega
    | cons x y=>rfl
   have hz:(strB l).size=l.length:=rfl;simp[Lib.closeSpans,nonE,hne,exP_eq,hz,List.take_of_length_le]
 intro f;induction f with
 | zero=>
  intro pos st acc h1 h2 h3;unfold Lib.spansFromP;exact fin pos st acc (by omega) h3
 | succ f ih=>
  intro pos st acc h1 h2 h3;by_cases hlt:pos < l.length
  .have hz:pos < (strB l).size:=hlt;obtain ⟨d1,d2⟩:=jab hlt;have hdr:l.drop pos=l[pos]::l.drop (pos+1):=List.drop_eq_getElem_cons hlt;unfold Lib.spansFromP;rw[if_pos hz];by_cases h32:l[pos]=32
   .rw[d1 h32];rw[show sp32 (32,1).1=true by decide,if_pos rfl];dsimp only;rw[hdr,h32,wrd_sp];cases st with
    | none=>
     dsimp only;rw[ih (pos+1) none acc (by omega) (by omega) (fun a h=>by cases h)];simp[curP,nonE]
    | some a=>
     have ha:=h3 a rfl;dsimp only;rw[ih (pos+1) none (acc++ [(a,pos)]) (by omega) (by omega) (fun a h=>by cases h)];have hne:((l.drop a).take (pos - a)).isEmpty=false:=by
      cases hd:(l.drop a).take (pos - a) with
      | nil=>have:=congrArg List.length hd;simp at this;omega
      | cons x y=>rfl
     simp[curP,nonE,exP_eq,hne]
   obtain ⟨e1,e2,e3,e4⟩:=d2 h32;generalize Utf8.decode (strB l) pos=d at e1 e2 e3 e4;obtain ⟨r,n⟩:=d;dsimp only at e1 e2 e3 e4;have hsp:sp32 r=false:=by unfold sp32;rw[decide_eq_false];omega
   rw[hsp];simp only[Bool.false_eq_true,if_false];have hk:(32:UInt8) ∉ (l.drop pos).take n:=by
    intro hm;obtain ⟨k,hk⟩:=List.mem_iff_getElem?.1 hm;rw[List.getElem?_take]at hk;split at hk
    .rename_i hkn;rw[List.getElem?_drop]at hk;have hkl:=(List.getElem?_eq_some_iff.1 hk).1;have hke:=(List.getElem?_eq_some_iff.1 hk).2;exact e4 k hkl hkn hke
    cases hk
   have hsplit:l.drop pos=(l.drop pos).take n++l.drop (pos+n):=by
    rw[<-List.drop_drop,List.take_append_drop]
   cases st with
   | none=>
    dsimp only;rw[ih (pos+n) (some pos) acc (by omega) e3 (fun a h=>by cases h;omega)]
    conv=>rhs;rw[hsplit,Yba _ _ hk]
    congr 2
    simp[curP]
   | some a=>
    have ha:=h3 a rfl;dsimp only;rw[ih (pos+n) (some a) acc (by omega) e3 (fun b h=>by cases h;omega)]
    conv=>rhs;rw[hsplit,Yba _ _ hk]
    congr 2
    show (l.drop a).take (pos+n - a)=(l.drop a).take (pos - a)++(l.drop pos).take n;rw[show pos+n - a=(pos - a)+n by omega,List.take_add,List.drop_drop,show a+(pos - a)=pos by omega]
  rw[Lib.spansFromP_end _ _ _ _ _ _ (by show ¬pos < l.length;exact hlt)];exact fin pos st acc (by omega) h3
theorem qIb(l:Str):(Lib.goFieldsP sp32 (strB l)).map (fun b=>b.data.toList)=w9a l:=by
 have h:=spans_eq l l.length 0 none [] (by omega) (by omega) (fun a h=>by cases h);rw[List.drop_zero]at h;unfold Lib.goFieldsP Lib.spansOfP;rw[List.map_map];rw[show ((fun b:ByteArray=>b.data.toList) ∘ fun x:Nat × Nat=>(strB l).extract x.1 x.2)=exP l from rfl];rw[show (strB l).size=l.length from rfl,h];simp[curP,y7b]
theorem vtb(a b:Bool):(bif a then some b else some false:Option Bool)=some (a && b):=by cases a <;> rfl
theorem or_some(a b:Bool):(bif a then some true else some b:Option Bool)=some (a || b):=by cases a <;> rfl
def Yca(c:zla):Bool:=(c.Verb==1 || c.Name==([]:Str)) && (c.Verb==2 || c.Verb==3 || c.Address==([]:Str)) && (c.Verb==2 || c.Verb==5 || c.Size==0) && (c.Verb==3 || c.Notify==0) && (c.Verb==5 || c.Last==false)
def cmdF(c:zla):zra:=
 bif decide (c.Verb < 1) || decide (8 < c.Verb) then ⟨4, -2⟩ else bif !Yca c then ⟨5, -3⟩ else bif c.Verb==1 && !v9a c.Name then ⟨10, -4⟩ else
 bif (c.Verb==3 || (c.Verb==2 && c.Address !=([]:Str))) && !k3a c.Address then ⟨10, -5⟩ else bif decide (c.Size < 0) || decide (1000000 < c.Size) then ⟨3, -6⟩ else
 bif !k4a c.Notify then ⟨3, -7⟩ else ⟨0,0⟩
theorem five(v:Int):v=1∨v=2∨v=3∨v=5∨((v==1)=false/\(v==2)=false/\(v==3)=false/\(v==5)=false):=by
 simp only[beq_eq_false_iff_ne];omega
theorem used_eq(c:zla):∃u,w0a c=some u/\vXa [(c.Verb==u.Verb),(c.Name==u.Name),(c.Address==u.Address),(c.Size==u.Size),(c.Notify==u.Notify),(c.Last==u.Last)]=Yca c:=by
 obtain ⟨v,n,a,s,o,l⟩:=c;rcases five v with rfl | rfl | rfl | rfl | ⟨h1,h2,h3,h5⟩
 .exact ⟨⟨1,n,[],0,0,false⟩,rfl,by simp[vXa,Yca,Bool.and_assoc]⟩
 .exact ⟨⟨2,[],a,s,0,false⟩,rfl,by simp[vXa,Yca,Bool.and_assoc]⟩
 .exact ⟨⟨3,[],a,0,o,false⟩,rfl,by simp[vXa,Yca,Bool.and_assoc]⟩
 .exact ⟨⟨5,[],[],s,0,l⟩,rfl,by simp[vXa,Yca,Bool.and_assoc]⟩
 refine ⟨⟨v,[],[],0,0,false⟩,?_,?_⟩
 .unfold w0a;dsimp only;rw[h1,h2,h3,h5];rfl
 unfold Yca;dsimp only;rw[h1,h2,h3,h5];simp[vXa,Bool.and_assoc]
def zqb(c:zla):Prop:=c.Name.length<=1048576/\c.Address.length<=1048576
theorem Qca(c:zla)(h:zqb c):qHa c=some (cmdF c):=by
 obtain ⟨u,hu,he⟩:=used_eq c;unfold qHa cmdF;rw[hu];simp only[Option.bind_some,he,Zfa _ h.1,kZa _ (show c.Address.length < 4294967281 by have:=h.2;omega),waa,zWa,kAa,vtb,or_some];cases decide (c.Verb < 1) || decide (8 < c.Verb) with
 | true=>rfl
 | false=>
  cases Yca c with
  | false=>rfl
  | true=>
   cases c.Verb==1 && !v9a c.Name with
   | true=>rfl
   | false=>
    cases (c.Verb==3 || (c.Verb==2 && c.Address !=([]:Str))) && !k3a c.Address with
    | true=>rfl
    | false=>
     cases decide (c.Size < 0) || decide (1000000 < c.Size) with
     | true=>rfl
     | false=>cases k4a c.Notify <;> rfl
theorem Vma(c:zla)(h:zqb c):jwa c=some (cmdF c):=by
 have hN:=WQa _ h.1;have hA:=YBa c.Address (by have:=h.2;omega);unfold jwa cmdF;rw[vMa];have e1:(!(decide (1<=c.Verb) && decide (c.Verb<=8)))=(decide (c.Verb < 1) || decide (8 < c.Verb)):=by
  rw[Bool.eq_iff_iff];simp
 simp only[Option.bind_some,e1,K5a];cases hv:decide (c.Verb < 1) || decide (8 < c.Verb) with
 | true=>rfl
 | false=>
  simp only[cond_false,hN,hA,Option.bind_some,vMa];obtain ⟨v,n,a,s,o,l⟩:=c;dsimp only at *;have en:(n !=([]:Str))= !(n==([]:Str)):=rfl;have ea:(a !=([]:Str))= !(a==([]:Str)):=rfl;have es:(s !=(0:Int))= !(s==0):=rfl;have eo:(o !=(0:Int))= !(o==0):=rfl;have e0:(0:Int)<=1000000:=by omega
  have sz:(decide (0<=s) && decide (s<=1000000))= !(decide (s < 0) || decide (1000000 < s)):=by rw[Bool.eq_iff_iff];simp
  have sz0:s=0->(decide (s < 0) || decide (1000000 < s))=false:=fun e=>by subst e;rfl
  have no0:o=0->k4a o=true:=fun e=>by subst e;rfl
  have nop:(decide (0<=o) && decide (o<=7))=k4a o:=rfl;rw[en,ea,es,eo,sz,nop];unfold Yca;dsimp only;rcases five v with rfl | rfl | rfl | rfl | ⟨h1,h2,h3,h5⟩
  .simp only[show ((1:Int)==1)=true from rfl,show ((1:Int)==2)=false from rfl,show ((1:Int)==3)=false from rfl,show ((1:Int)==5)=false from rfl,show ((1:Int) !=1)=false from rfl,show ((1:Int) !=2)=true from rfl,show ((1:Int) !=3)=true from rfl,show ((1:Int) !=5)=true from rfl];cases a==([]:Str) with
   | false=>rfl
   | true=>
    cases hs:s==0 with
    | false=>rfl
    | true=>
     cases ho:o==0 with
     | false=>rfl
     | true=>
      rw[sz0 (by simpa using hs),no0 (by simpa using ho)];cases l <;> cases v9a n <;> rfl
  .simp only[show ((2:Int)==1)=false from rfl,show ((2:Int)==2)=true from rfl,show ((2:Int)==3)=false from rfl,show ((2:Int)==5)=false from rfl,show ((2:Int) !=1)=true from rfl,show ((2:Int) !=2)=false from rfl,show ((2:Int) !=3)=true from rfl,show ((2:Int) !=5)=true from rfl];cases n==([]:Str) with
   | false=>rfl
   | true=>
    cases ho:o==0 with
    | false=>rfl
    | true=>
     rw[no0 (by simpa using ho)];cases l <;> cases a==([]:Str) <;> cases k3a a <;> cases (decide (s < 0) || decide (1000000 < s)) <;> rfl
  .simp only[show ((3:Int)==1)=false from rfl,show ((3:Int)==2)=false from rfl,show ((3:Int)==3)=true from rfl,show ((3:Int)==5)=false from rfl,show ((3:Int) !=1)=true from rfl,show ((3:Int) !=2)=true from rfl,show ((3:Int) !=3)=false from rfl,show ((3:Int) !=5)=true from rfl];cases n==([]:Str) with
   | false=>rfl
   | true=>
    cases hs:s==0 with
    | false=>rfl
    | true=>
     rw[sz0 (by simpa using hs)];cases l <;> cases k3a a <;> cases k4a o <;> rfl
  .simp only[show ((5:Int)==1)=false from rfl,show ((5:Int)==2)=false from rfl,show ((5:Int)==3)=false from rfl,show ((5:Int)==5)=true from rfl,show ((5:Int) !=1)=true from rfl,show ((5:Int) !=2)=true from rfl,show ((5:Int) !=3)=true from rfl,show ((5:Int) !=5)=false from rfl];cases n==([]:Str) with
   | false=>rfl
   | true=>
    cases a==([]:Str) with
    | false=>rfl
    | true=>
     cases ho:o==0 with
     | false=>rfl
     | true=>
      rw[no0 (by simpa using ho)];cases (decide (s < 0) || decide (1000000 < s)) <;> rfl
  have n1:(v !=1)=true:=by unfold bne;rw[h1];rfl
  have n2:(v !=2)=true:=by unfold bne;rw[h2];rfl
  have n3:(v !=3)=true:=by unfold bne;rw[h3];rfl
  have n5:(v !=5)=true:=by unfold bne;rw[h5];rfl
  rw[h1,h2,h3,h5,n1,n2,n3,n5];cases n==([]:Str) with
  | false=>rfl
  | true=>
   cases a==([]:Str) with
   | false=>rfl
   | true=>
    cases hs:s==0 with
    | false=>rfl
    | true=>
     cases ho:o==0 with
     | false=>rfl
     | true=>
      rw[sz0 (by simpa using hs),no0 (by simpa using ho)];cases l <;> rfl
structure YHa (c:zla):Prop where
 verb:1<=c.Verb/\c.Verb<=8
 used:Yca c=true
 name:c.Verb=1->v9a c.Name=true
 addr:c.Verb=3∨(c.Verb=2/\c.Address≠ [])->k3a c.Address=true
 size:0<=c.Size/\c.Size<=1000000
 note:0<=c.Notify/\c.Notify<=7
theorem jbb{c:zla}(h:(cmdF c).Code=0):YHa c/\cmdF c=⟨0,0⟩:=by
 unfold cmdF at h ⊢;cases h1:decide (c.Verb < 1) || decide (8 < c.Verb) with
 | true=>rw[h1]at h;exact absurd h (show (4:Int)≠0 by decide)
 | false=>
  rw[h1]at h;cases h2:Yca c with
  | false=>rw[h2]at h;exact absurd h (show (5:Int)≠0 by decide)
  | true=>
   rw[h2]at h;cases h3:c.Verb==1 && !v9a c.Name with
   | true=>rw[h3]at h;exact absurd h (show (10:Int)≠0 by decide)
   | false=>
    rw[h3]at h;cases h4:(c.Verb==3 || (c.Verb==2 && c.Address !=([]:Str))) && !k3a c.Address with
    | true=>rw[h4]at h;exact absurd h (show (10:Int)≠0 by decide)
    | false=>
     rw[h4]at h;cases h5:decide (c.Size < 0) || decide (1000000 < c.Size) with
     | true=>rw[h5]at h;exact absurd h (show (3:Int)≠0 by decide)
     | false=>
      rw[h5]at h;cases h6:k4a c.Notify with
      | false=>rw[h6]at h;exact absurd h (show (3:Int)≠0 by decide)
      | true=>
       simp only[Bool.or_eq_false_iff,decide_eq_false_iff_not]at h1 h5;unfold k4a at h6;simp only[Bool.and_eq_true,decide_eq_true_eq]at h6;refine ⟨⟨by omega,h2,fun hv=>?_,fun hv=>?_,by omega,h6⟩,rfl⟩
       .rw[hv]at h3;simpa using h3
       cases ha:k3a c.Address with
       | true=>rfl
       | false=>
        rw[ha]at h4;rcases hv with hv | ⟨hv,hn⟩
        .rw[hv]at h4;simp at h4
        rw[hv]at h4;simp at h4;exact absurd h4 hn
def QDa:List Str:=[[104,101,108,108,111],[109,97,105,108],[114,99,112,116],[100,97,116,97],[99,104,117,110,107],[114,101,115,101,116],[110,111,111,112],[113,117,105,116]]
def ZXa:List Str:=[[110,101,118,101,114],[102,97,105,108,117,114,101],[100,101,108,97,121],[102,97,105,108,117,114,101,44,100,101,108,97,121],[115,117,99,99,101,115,115],[102,97,105,108,117,114,101,44,115,117,99,99,101,115,115],[100,101,108,97,121,44,115,117,99,99,101,115,115],[102,97,105,108,117,114,101,44,100,101,108,97,121,44,115,117,99,99,101,115,115]]
def zrb(v:Int):Str:=QDa.getD (v - 1).toNat []
def qJb(n:Int):Str:=ZXa.getD n.toNat []
def condsV:zka × zka × zka:=((zka.mk 1 (([102,97,105,108,117,114,101]:Str))),(zka.mk 2 (([100,101,108,97,121]:Str))),(zka.mk 4 (([115,117,99,99,101,115,115]:Str))))
instance:DecidableEq (Step (Int × List Str) (List Str)):=fun a b=>match a,b with
 | .cont x,.cont y=>decidable_of_iff (x=y) (by simp)
 | .out x,.out y=>decidable_of_iff (x=y) (by simp)
 | .cont x,.out y=>isFalse (by simp)
 | .out x,.cont y=>isFalse (by simp)
def wob(n:Nat):List Str:=(if n % 2=1 then [[102,97,105,108,117,114,101]] else [])++(if n / 2 % 2=1 then [[100,101,108,97,121]] else [])++(if n / 4 % 2=1 then [[115,117,99,99,101,115,115]] else [])
theorem jcb:∀n:Fin 8,Kta (wAa (n.val:Int) condsV) 4 (0,[])=some (wob n.val):=by decide+kernel
theorem jdb:∀n:Fin 8,(if wob n.val=[] then ([110,101,118,101,114]:Str) else Lib.join (wob n.val) [44])=ZXa.getD n.val []/\(wob n.val).length<=3/\(ZXa.getD n.val []).length<=100:=by decide+kernel
theorem Vna{n:Int}(h:0<=n/\n<=7):vwa n=some (qJb n):=by
 have h1:=jcb ⟨n.toNat,by omega⟩;obtain ⟨h2,h3,h4⟩:=jdb ⟨n.toNat,by omega⟩;dsimp only at h1 h2 h3 h4;rw[show ((n.toNat:Nat):Int)=n by omega]at h1;unfold vwa;have hc:qTa=some condsV:=rfl;rw[hc];simp only[Option.bind_some];rw[Qka.2 ⟨4,h1⟩];simp only[Option.bind_some];unfold qJb;by_cases he:wob n.toNat=[]
 .rw[if_pos he]at h2;rw[he,<-h2];rfl
 rw[if_neg he]at h2;have e:(((wob n.toNat).length:Int)==0)=false:=by
  rw[beq_eq_false_iff_ne];have:=List.length_pos_iff.2 he;omega
 rw[e];simp only[cond_false];unfold q5a;rw[if_pos ⟨by omega,by rw[h2];omega⟩,h2];rfl
theorem jeb:∀k:Fin 8,QDa[k.val]? =some (zrb ((k.val:Int)+1))/\(zrb ((k.val:Int)+1)).length<=5:=by decide
theorem word_idx{v:Int}(h:1<=v/\v<=8):idx QDa (w64 (v - 1))=some (zrb v)/\(zrb v).length<=5:=by
 have:=jeb ⟨(v - 1).toNat,by omega⟩;dsimp only at this;rw[show (((v - 1).toNat:Nat):Int)+1=v by omega]at this;rw[qja (by omega) (by omega),show v - 1=(((v - 1).toNat:Nat):Int) by omega,wCa];exact this
theorem VXa:yra=some (([104,101,108,108,111]:Str),([109,97,105,108]:Str),([114,99,112,116]:Str),([100,97,116,97]:Str),([99,104,117,110,107]:Str),([114,101,115,101,116]:Str),([110,111,111,112]:Str),([113,117,105,116]:Str)):=rfl
theorem zsb{a:Str}(h:k3a a=true):a.length<=121:=by
 unfold k3a at h;simp only[Bool.and_eq_true,decide_eq_true_eq]at h;obtain ⟨⟨⟨⟨h1,h2⟩,h3⟩,h4⟩,h5⟩:=h;unfold domP at h5;simp only[Bool.and_eq_true,decide_eq_true_eq,List.length_drop]at h5;omega
theorem jfb{v:Int}(h:1<=v/\v<=8):yDb v=some (zrb v):=by
 unfold yDb;exact (congrArg (fun o:Option Str=>o.bind fun v1=>some v1) (word_idx h).1)
theorem VYa:∀k:Fin 8,ZQa (k.val:Int)=some (ZXa.getD k.val []):=by decide
theorem Yda{n:Int}(h:0<=n/\n<=7):ZQa n=some (qJb n):=by
 have:=VYa ⟨n.toNat,by omega⟩;dsimp only at this;rw[show ((n.toNat:Nat):Int)=n by omega]at this;exact this
def angP:Str->Option Str
 | b::r=>if b=60/\r.getLast? =some 62 then some r.dropLast else none
 | []=>none
theorem Jja(c:UInt8)(v:Str):Lib.hasSuffix v [c]=decide (v.getLast? =some c):=by
 unfold Lib.hasSuffix;rw[Bool.eq_iff_iff,List.isSuffixOf_iff_suffix,decide_eq_true_eq];constructor
 .rintro ⟨t,rfl⟩;simp
 intro h;have hne:v≠ []:=by rintro rfl;cases h
 refine ⟨v.dropLast,?_⟩;have:=List.dropLast_concat_getLast hne;rw[List.getLast?_eq_some_getLast hne]at h;rw[Option.some.inj h]at this;exact this
theorem qUa(a:Str)(ha:a.length<=1048576):∃x,qpa a=some (x,(angP a).isSome)/\∀y,angP a=some y->x=y:=by
 unfold qpa zXa;simp only[Option.bind_some];have hpre:∀(t:Str),Lib.hasPrefix (60::t) [60]=true:=fun t=>by simp[Lib.hasPrefix]
 cases a with
 | nil=>
  refine ⟨[],?_,fun y h=>by cases h⟩;unfold zYa;rfl
 | cons b r=>
  by_cases hb:b=60
  .subst hb;have h1:Lib.trimPrefix (60::r) [60]=r:=by unfold Lib.trimPrefix;rw[hpre];rfl
   rw[h1,hpre];unfold zYa;simp at ha;have hsm:(angP (60::r)).isSome=decide (r.getLast? =some 62):=by
    unfold angP;by_cases hl:r.getLast? =some 62 <;> simp[hl]
   rw[if_pos (by omega),Jja,hsm];simp only[Option.bind_some,cond_true];refine ⟨_,rfl,fun y hy=>?_⟩;unfold angP at hy;by_cases hl:r.getLast? =some 62
   .simp only[hl,and_self,if_true,Option.some.injEq]at hy;subst hy;unfold Lib.trimSuffix;rw[Jja,hl];simp[List.dropLast_eq_take]
   simp[hl]at hy
  have h1:Lib.hasPrefix (b::r) [60]=false:=by
   simp[Lib.hasPrefix,List.isPrefixOf];exact fun h=>hb h.symm
  have h2:Lib.trimPrefix (b::r) [60]=b::r:=by unfold Lib.trimPrefix;rw[h1];rfl
  rw[h1,h2];unfold zYa;rw[if_pos (by omega)];have h3:angP (b::r)=none:=by unfold angP;simp[hb]
  exact ⟨_,by rw[h3];rfl,fun y hy=>by rw[h3]at hy;cases hy⟩
def optP(o n:Str):Option Str:=if (n++ [61]).isPrefixOf (lowP o) then some ((lowP o).drop (n.length+1)) else none
theorem jUa(o n:Str)(ho:o.length<=1048576)(hn:n.length<=100):∃x,kPa [o] n=some (x,(optP o n).isSome)/\(∀y,optP o n=some y->x=y)/\x.length<=o.length:=by
 have hll:(lowP o).length=o.length:=by unfold lowP;simp
 unfold kPa;have e1:((([o]:List Str).length:Int) !=1)=false:=rfl;have e2:idx [o] 0=some o:=rfl;rw[e1,e2];simp only[cond_false,Option.bind_some,jza o ho];rw[yTa (by simp;omega)];unfold zXa;simp only[Option.bind_some];unfold optP Lib.trimPrefix Lib.hasPrefix;by_cases h:(n++ [61]).isPrefixOf (lowP o)=true
 .rw[if_pos h];refine ⟨_,by rw[h];rfl,fun y hy=>?_,by simp;omega⟩;rw[if_pos h]at hy;cases hy;simp
 have h0:(n++ [61]).isPrefixOf (lowP o)=false:=by cases hb:(n++ [61]).isPrefixOf (lowP o) with
  | true=>exact absurd hb h
  | false=>rfl
 refine ⟨lowP o,?_,fun y hy=>?_,by omega⟩
 .rw[h0];simp
 rw[h0]at hy;simp at hy
def QEa(s:Str):Option Int:=zya (fun i w=>if w==s then some ((i:Nat):Int) else none) 0 ZXa
theorem Yea(s:Str)(b:Bool):w2a s b=some (match (if b then QEa s else none) with | some n=>(n,true) | none=>(0,false)):=by
 unfold w2a;cases b with
 | false=>
  have wEa:∀i:Nat,i<=8->iter (kba s false) (i:Int)=some (.inl ()):=by
   intro i hi;have key:∀k i:Nat,i+k=8->iter (kba s false) (i:Int)=some (.inl ()):=by
    intro k;induction k with
    | zero=>
     intro i h;refine zAa ?_;unfold kba;rw[decide_eq_false (by omega)];rfl
    | succ k ih=>
     intro i h;have hs:kba s false (i:Int)=some (.cont ((i+1:Nat):Int)):=by
      unfold kba;rw[decide_eq_true (by omega)];simp only[cond_true,cond_false,Option.bind_some,sc i (by omega)]
     rw[zOa hs];exact ih (i+1) (by omega)
   exact key (8 - i) i (by omega)
  have:=wEa 0 (by omega);rw[show (((0:Nat)):Int)=0 from rfl]at this;rw[this];rfl
 | true=>
  have hl:=zTa ZXa (fun i w=>if w==s then some (((i:Nat):Int),true) else none) (Sum.inl ()) Sum.inr (body:=kba s true)
   (by unfold kba;rfl) (fun i w hw=>by
    have hi:=zLa hw;have h8:ZXa.length=8:=rfl;have hc:qJb (i:Int)=w:=by
     unfold qJb;rw[Int.toNat_natCast,List.getD_eq_getElem?_getD,hw];rfl
    unfold kba;rw[decide_eq_true (by omega),Vna (by omega),hc];simp only[cond_true,Option.bind_some,sc i (by omega)];cases w==s <;> rfl)
  rw[hl];have hf:∀(l:List Str) (n:Nat),zya (fun i w=>if w==s then some (((i:Nat):Int),true) else none) n l=(zya (fun i w=>if w==s then some ((i:Nat):Int) else none) n l).map fun x=>(x,true):=by
   intro l;induction l with
   | nil=>intro n;rfl
   | cons y l ih=>
    intro n;unfold zya;cases hy:y==s with
    | true=>simp
    | false=>simp only[Bool.false_eq_true,if_false];exact ih (n+1)
  rw[hf];unfold QEa;rw[if_pos rfl];cases zya (fun i w=>if w==s then some ((i:Nat):Int) else none) 0 ZXa <;> rfl
def VZa:Str:=[115,105,122,101]
def notW:Str:=[110,111,116,105,102,121]
def kpb:Str:=[108,97,115,116]
def wea(v:Int)(l:List Str):Option zla:=
 if v=1 then (match l with | [n]=>some ⟨1,n,[],0,0,false⟩ | _=>none)
 else if v=2 then (match l with
  | [a]=>(angP a).map fun x=>⟨2,[],x,0,0,false⟩
  | [a,o]=>(angP a).bind fun x=>(optP o VZa).bind fun s=>(numP s).map fun (m:Nat)=>(⟨2,[],x,(m:Int),0,false⟩:zla)
  | _=>none)
 else if v=3 then (match l with
  | [a]=>(angP a).map fun x=>⟨3,[],x,0,1,false⟩
  | [a,o]=>(angP a).bind fun x=>(optP o notW).bind fun s=>(QEa s).map fun m=>⟨3,[],x,0,m,false⟩
  | _=>none)
 else if v=5 then (match l with
  | [n]=>(numP n).map fun (m:Nat)=>(⟨5,[],[],(m:Int),0,false⟩:zla)
  | [n,x]=>(numP n).bind fun m=>if lowP x=kpb then some ⟨5,[],[],(m:Int),0,true⟩ else none
  | _=>none)
 else (match l with | []=>some ⟨v,[],[],0,0,false⟩ | _=>none)
theorem ap2(a:Str):wea 2 [a]=(angP a).map fun x=>(⟨2,[],x,0,0,false⟩:zla):=rfl
theorem ap22(a o:Str):wea 2 [a,o]=(angP a).bind fun x=>(optP o VZa).bind fun s=>(numP s).map fun (m:Nat)=>(⟨2,[],x,(m:Int),0,false⟩:zla):=rfl
theorem ap3(a:Str):wea 3 [a]=(angP a).map fun x=>(⟨3,[],x,0,1,false⟩:zla):=rfl
theorem ap33(a o:Str):wea 3 [a,o]=(angP a).bind fun x=>(optP o notW).bind fun s=>(QEa s).map fun m=>(⟨3,[],x,0,m,false⟩:zla):=rfl
theorem ap5(n:Str):wea 5 [n]=(numP n).map fun (m:Nat)=>(⟨5,[],[],(m:Int),0,false⟩:zla):=rfl
theorem ap55(n x:Str):wea 5 [n,x]=(numP n).bind fun (m:Nat)=>if lowP x=kpb then some (⟨5,[],[],(m:Int),0,true⟩:zla) else none:=rfl
theorem len_in(l:List Str)(a b:Int):(((bif decide (a<=(l.length:Int)) then some (decide ((l.length:Int)<=b)) else some false):Option Bool))=some (decide (a<=(l.length:Int)) && decide ((l.length:Int)<=b)):=vtb _ _
theorem Yfa(v:Int)(l:List Str)(hl:∀s∈l,s.length<=1048576)(hv:v≠4->v≠6->v≠7->v≠8->v=1∨v=2∨v=3∨v=5):
 ∃c,w3a v l=some (c,(wea v l).isSome)/\∀y,wea v l=some y->c=y:=by
 have none3:∀(a b c:Str) (r:List Str) (v:Int),wea v (a::b::c::r)=none:=by
  intro a b c r v;unfold wea;repeat' split <;> first | rfl | (rename_i h;cases h) | skip
 unfold w3a;simp only[len_in,Option.bind_some];rcases five v with rfl | rfl | rfl | rfl | ⟨h1,h2,h3,h5⟩
 .simp only[show ((1:Int)==1)=true from rfl,cond_true]
  match l,hl with
  | [],_=>exact ⟨_,rfl,fun y h=>by cases h⟩
  | [n],_=>exact ⟨_,rfl,fun y h=>by cases h;rfl⟩
  | a::b::r,_=>
   have e:(decide ((1:Int)<=(((a::b::r).length:Nat):Int)) && decide ((((a::b::r).length:Nat):Int)<=1))=false:=by simp;omega
   rw[e];exact ⟨_,rfl,fun y h=>by cases h⟩
 .simp only[show ((2:Int)==1)=false from rfl,show ((2:Int)==2)=true from rfl,cond_true,cond_false]
  match l,hl with
  | [],_=>exact ⟨_,rfl,fun y h=>by cases h⟩
  | [a],hl=>
   obtain ⟨x,hx,hy⟩:=qUa a (hl a (by simp));have e2:idx [a] 0=some a:=rfl;have e4:(((([a]:List Str).length:Nat):Int)==2)=false:=rfl;have e5:(decide ((1:Int)<=(((([a]:List Str).length:Nat):Int))) && decide ((((([a]:List Str).length:Nat):Int))<=2))=true:=rfl;rw[e5,e2,e4];simp only[Option.bind_some,Bool.not_true,cond_false];rw[hx];refine ⟨⟨2,[],x,0,0,false⟩,?_,fun y h=>?_⟩
   .rw[ap2];cases angP a <;> rfl
   rw[ap2]at h;cases ha:angP a with
   | none=>rw[ha]at h;cases h
   | some z=>rw[ha]at h;cases h;rw[hy z ha]
  | [a,o],hl=>
   obtain ⟨x,hx,hy⟩:=qUa a (hl a (by simp));obtain ⟨z,hz,hzy,hzl⟩:=jUa o VZa (hl o (by simp)) (by decide);have e2:idx [a,o] 0=some a:=rfl;have e3:cut [a,o] 1 ((([a,o]:List Str).length:Nat):Int)=some [o]:=rfl;have e4:(((([a,o]:List Str).length:Nat):Int)==2)=true:=rfl;have e5:(decide ((1:Int)<=(((([a,o]:List Str).length:Nat):Int))) && decide ((((([a,o]:List Str).length:Nat):Int))<=2))=true:=rfl;have hz' :kPa [o] ([115,105,122,101]:Str)=_:=hz;rw[e5,e2,e4,e3];simp only[Option.bind_some,Bool.not_true,cond_false,cond_true];rw[hx];simp only[Option.bind_some];rw[hz'];simp only[Option.bind_some,wFa];cases hn:numP z with
   | none=>
    refine ⟨⟨2,[],x,0,0,false⟩,?_,fun y h=>?_⟩
    .have:wea 2 [a,o]=none:=by
      rw[ap22];cases angP a with
      | none=>rfl
      | some q=>
       cases ho:optP o VZa with
       | none=>simp[ho]
       | some w=>
        have:=hzy w ho;subst this;simp[ho,hn]
     rw[this];cases (angP a).isSome <;> rfl
    exfalso;rw[ap22]at h;cases ha:angP a with
    | none=>rw[ha]at h;cases h
    | some q=>
     cases ho:optP o VZa with
     | none=>rw[ha]at h;simp[ho]at h
     | some w=>
      have:=hzy w ho;subst this;rw[ha]at h;simp[ho,hn]at h
   | some m=>
    refine ⟨⟨2,[],x,(m:Int),0,false⟩,?_,fun y h=>?_⟩
    .rw[ap22];cases ha:angP a with
     | none=>rfl
     | some q=>
      cases ho:optP o VZa with
      | none=>simp[ho];rfl
      | some w=>
       have:=hzy w ho;subst this;simp[ho,hn];rfl
    rw[ap22]at h;cases ha:angP a with
    | none=>rw[ha]at h;cases h
    | some q=>
     cases ho:optP o VZa with
     | none=>rw[ha]at h;simp[ho]at h
     | some w=>
      have:=hzy w ho;subst this;rw[ha]at h;simp[ho,hn]at h;rw[<-h,hy q ha]
  | a::b::c::r,_=>
   have e:(decide ((1:Int)<=(((a::b::c::r).length:Nat):Int)) && decide ((((a::b::c::r).length:Nat):Int)<=2))=false:=by simp;omega
   rw[e,none3];exact ⟨_,rfl,fun y h=>by cases h⟩
 .simp only[show ((3:Int)==1)=false from rfl,show ((3:Int)==2)=false from rfl,show ((3:Int)==3)=true from rfl,cond_true,cond_false]
  match l,hl with
  | [],_=>exact ⟨_,rfl,fun y h=>by cases h⟩
  | [a],hl=>
   obtain ⟨x,hx,hy⟩:=qUa a (hl a (by simp));have e2:idx [a] 0=some a:=rfl;have e4:(((([a]:List Str).length:Nat):Int)==2)=false:=rfl;have e5:(decide ((1:Int)<=(((([a]:List Str).length:Nat):Int))) && decide ((((([a]:List Str).length:Nat):Int))<=2))=true:=rfl;rw[e5,e2,e4];simp only[Option.bind_some,Bool.not_true,cond_false];rw[hx];refine ⟨⟨3,[],x,0,1,false⟩,?_,fun y h=>?_⟩
   .rw[ap3];cases angP a <;> rfl
   rw[ap3]at h;cases ha:angP a with
   | none=>rw[ha]at h;cases h
   | some z=>rw[ha]at h;cases h;rw[hy z ha]
  | [a,o],hl=>
   obtain ⟨x,hx,hy⟩:=qUa a (hl a (by simp));obtain ⟨z,hz,hzy,hzl⟩:=jUa o notW (hl o (by simp)) (by decide);have e2:idx [a,o] 0=some a:=rfl;have e3:cut [a,o] 1 ((([a,o]:List Str).length:Nat):Int)=some [o]:=rfl;have e4:(((([a,o]:List Str).length:Nat):Int)==2)=true:=rfl;have e5:(decide ((1:Int)<=(((([a,o]:List Str).length:Nat):Int))) && decide ((((([a,o]:List Str).length:Nat):Int))<=2))=true:=rfl;have hz' :kPa [o] ([110,111,116,105,102,121]:Str)=_:=hz;rw[e5,e2,e4,e3];simp only[Option.bind_some,Bool.not_true,cond_false,cond_true];rw[hx];simp only[Option.bind_some];rw[hz'];simp only[Option.bind_some,Yea];cases ho:optP o notW with
   | none=>
    have h0:wea 3 [a,o]=none:=by
     rw[ap33];cases angP a <;> simp[ho]
    rw[h0];refine ⟨⟨3,[],x,0,0,false⟩,?_,fun y h=>by cases h⟩;cases (angP a).isSome <;> rfl
   | some w=>
    have:=hzy w ho;subst this;simp only[Option.isSome_some,if_true];cases hn:QEa z with
    | none=>
     have h0:wea 3 [a,o]=none:=by
      rw[ap33];cases angP a <;> simp[ho,hn]
     rw[h0];refine ⟨⟨3,[],x,0,0,false⟩,?_,fun y h=>by cases h⟩;cases (angP a).isSome <;> rfl
    | some m=>
     refine ⟨⟨3,[],x,0,m,false⟩,?_,fun y h=>?_⟩
     .rw[ap33];cases ha:angP a with
      | none=>rfl
      | some q=>simp[ho,hn];rfl
     rw[ap33]at h;cases ha:angP a with
     | none=>rw[ha]at h;cases h
     | some q=>
      rw[ha]at h;simp[ho,hn]at h;rw[<-h,hy q ha]
  | a::b::c::r,_=>
   have e:(decide ((1:Int)<=(((a::b::c::r).length:Nat):Int)) && decide ((((a::b::c::r).length:Nat):Int)<=2))=false:=by simp;omega
   rw[e,none3];exact ⟨_,rfl,fun y h=>by cases h⟩
 .simp only[show ((5:Int)==1)=false from rfl,show ((5:Int)==2)=false from rfl,show ((5:Int)==3)=false from rfl,show ((5:Int)==5)=true from rfl,cond_true,cond_false]
  match l,hl with
  | [],_=>exact ⟨_,rfl,fun y h=>by cases h⟩
  | [a],hl=>
   have e2:idx [a] 0=some a:=rfl;have e4:(((([a]:List Str).length:Nat):Int)==2)=false:=rfl;have e5:(decide ((1:Int)<=(((([a]:List Str).length:Nat):Int))) && decide ((((([a]:List Str).length:Nat):Int))<=2))=true:=rfl;rw[e5,e2,e4];simp only[Option.bind_some,Bool.not_true,Bool.not_false,cond_false,cond_true,wFa];cases hn:numP a with
   | none=>
    have h0:wea 5 [a]=none:=by
     rw[ap5];simp[hn]
    rw[h0];exact ⟨⟨5,[],[],0,0,false⟩,rfl,fun y h=>by cases h⟩
   | some m=>
    have h0:wea 5 [a]=some ⟨5,[],[],(m:Int),0,false⟩:=by
     rw[ap5];simp[hn]
    rw[h0];exact ⟨⟨5,[],[],(m:Int),0,false⟩,rfl,fun y h=>by cases h;rfl⟩
  | [a,x],hl=>
   have e2:idx [a,x] 0=some a:=rfl;have e3:idx [a,x] 1=some x:=rfl;have e4:(((([a,x]:List Str).length:Nat):Int)==2)=true:=rfl;have e5:(decide ((1:Int)<=(((([a,x]:List Str).length:Nat):Int))) && decide ((((([a,x]:List Str).length:Nat):Int))<=2))=true:=rfl;rw[e5,e2,e4,e3];simp only[Option.bind_some,Bool.not_true,cond_false,cond_true,wFa,jza x (hl x (by simp))];have hw:(lowP x==([108,97,115,116]:Str))=decide (lowP x=kpb):=by rw[Bool.eq_iff_iff,beq_iff_eq,decide_eq_true_eq];exact Iff.rfl
   rw[hw];cases hn:numP a with
   | none=>
    have h0:wea 5 [a,x]=none:=by
     rw[ap55];simp[hn]
    rw[h0];exact ⟨⟨5,[],[],0,0,true⟩,rfl,fun y h=>by cases h⟩
   | some m=>
    by_cases hx:lowP x=kpb
    .have h0:wea 5 [a,x]=some ⟨5,[],[],(m:Int),0,true⟩:=by
      rw[ap55];simp[hn,hx]
     rw[h0,decide_eq_true hx];exact ⟨⟨5,[],[],(m:Int),0,true⟩,rfl,fun y h=>by cases h;rfl⟩
    have h0:wea 5 [a,x]=none:=by
     rw[ap55];simp[hn,hx]
    rw[h0,decide_eq_false hx];exact ⟨⟨5,[],[],(m:Int),0,true⟩,rfl,fun y h=>by cases h⟩
  | a::b::c::r,_=>
   have e:(decide ((1:Int)<=(((a::b::c::r).length:Nat):Int)) && decide ((((a::b::c::r).length:Nat):Int)<=2))=false:=by simp;omega
   rw[e,none3];exact ⟨_,rfl,fun y h=>by cases h⟩
 rw[h1,h2,h3,h5];simp only[cond_false];have n1:v≠1:=by simpa using h1
 have n2:v≠2:=by simpa using h2
 have n3:v≠3:=by simpa using h3
 have n5:v≠5:=by simpa using h5
 have hr:vxa 0 0 l=some l.isEmpty:=by
  unfold vxa;rw[len_in];cases l with
  | nil=>rfl
  | cons a r=>
   simp only[Option.bind_some];have:(decide ((0:Int)<=(((a::r).length:Nat):Int)) && decide ((((a::r).length:Nat):Int)<=0))=false:=by simp
   rw[this];rfl
 rw[hr];unfold wea;rw[if_neg n1,if_neg n2,if_neg n3,if_neg n5];cases l with
 | nil=>exact ⟨_,rfl,fun y h=>by cases h;rfl⟩
 | cons a r=>exact ⟨_,rfl,fun y h=>by cases h⟩
def qKb(y:Str):Int:=QDa.zipIdx.foldl (fun (s:Int) p=>if y==p.1 then ((p.2+1:Nat):Int) else s) 0
def qLb:List Str->Int
 | []=>0
 | x::_=>qKb (lowP x)
theorem Yga(y:Str):(qKb y=0/\y ∉ QDa)∨∃v:Int,1<=v/\v<=8/\qKb y=v/\y=zrb v:=by
 by_cases h:y∈QDa
 .right;have:∀z∈QDa,∃v:Fin 8,qKb z=(v.val:Int)+1/\z=zrb ((v.val:Int)+1):=by decide
  obtain ⟨v,h1,h2⟩:=this y h;exact ⟨(v.val:Int)+1,by omega,by omega,h1,h2⟩
 left;refine ⟨?_,h⟩;simp only[QDa,List.mem_cons,List.not_mem_nil,or_false,not_or]at h;obtain ⟨a1,a2,a3,a4,a5,a6,a7,a8⟩:=h;simp[qKb,QDa,List.zipIdx,a1,a2,a3,a4,a5,a6,a7,a8]
theorem QFa(w:List Str)(hw:∀s∈w,s.length<=1048576):iter (k6a w (([104,101,108,108,111]:Str),([109,97,105,108]:Str),([114,99,112,116]:Str),([100,97,116,97]:Str),([99,104,117,110,107]:Str),([114,101,115,101,116]:Str),([110,111,111,112]:Str),([113,117,105,116]:Str))) (0,0)=some (qLb w):=by
 obtain ⟨t,h1,h2,h3⟩:=Kna QDa (fun i (s:Int)=>(s,i)) (fun i s x=>match w with | []=>s | y::_=>if lowP y==x then ((i+1:Nat):Int) else s) id (fun _ _=>True) (body:=k6a w (([104,101,108,108,111]:Str),([109,97,105,108]:Str),([114,99,112,116]:Str),([100,97,116,97]:Str),([99,104,117,110,107]:Str),([114,101,115,101,116]:Str),([110,111,111,112]:Str),([113,117,105,116]:Str)))
  (fun s _=>by unfold k6a;rfl) (fun i x s hx _=>by
   have hi:=zLa hx;have h8:QDa.length=8:=rfl;refine ⟨?_,trivial⟩;unfold k6a;dsimp only;rw[decide_eq_true (by omega),show ([([104,101,108,108,111]:Str),([109,97,105,108]:Str),([114,99,112,116]:Str),([100,97,116,97]:Str),([99,104,117,110,107]:Str),([114,101,115,101,116]:Str),([110,111,111,112]:Str),([113,117,105,116]:Str)]:List Str)=QDa from rfl,zCa hx];simp only[cond_true,Option.bind_some,sc i (by omega)];cases w with
   | nil=>rfl
   | cons y r=>
    have e1:decide ((0:Int) < (((y::r).length:Nat):Int))=true:=by simp
    have e2:idx (y::r) 0=some y:=rfl;rw[e1,e2];simp only[cond_true,Option.bind_some,jza y (hw y (by simp))];cases lowP y==x <;> rfl) 0 trivial
 rw[h1,h3];cases w with
 | nil=>rfl
 | cons y r=>rfl
def noC:zla:=⟨0,[],[],0,0,false⟩
def finP(c:zla):zla × zra:=bif (cmdF c).Code !=0 then (noC,cmdF c) else (c,⟨0,0⟩)
def ZYa(s:Str):zla × zra:=
 if 4000 < s.length then (noC,⟨1, -1⟩) else if qLb (w9a s)=0 then (noC,⟨18, -2⟩) else match wea (qLb (w9a s)) ((w9a s).drop 1) with
  | none=>(noC,⟨11, -3⟩)
  | some c=>finP c
theorem Jka{s x:Str}(h:x∈w9a s):x.length<=s.length:=wnb (List.mem_filter.1 h).1
theorem jna{a y:Str}(h:angP a=some y):y.length<=a.length:=by
 unfold angP at h;split at h
 .split at h
  .cases h;simp;omega
  cases h
 cases h
theorem qMb{v:Int}{l:List Str}{c:zla}(hl:∀s∈l,s.length<=1048576)(h:wea v l=some c):zqb c:=by
 unfold wea at h;have z:([]:Str).length<=1048576:=by decide
 split at h
 .split at h
  .cases h;exact ⟨hl _ (by simp),z⟩
  cases h
 split at h
 .split at h
  .rename_i a;cases ha:angP a with
   | none=>rw[ha]at h;cases h
   | some q=>rw[ha]at h;cases h;exact ⟨z,Nat.le_trans (jna ha) (hl _ (by simp))⟩
  .rename_i a o;cases ha:angP a with
   | none=>rw[ha]at h;cases h
   | some q=>
    rw[ha]at h;cases ho:optP o VZa with
    | none=>simp[ho]at h
    | some w=>
     cases hn:numP w with
     | none=>simp[ho,hn]at h
     | some m=>simp[ho,hn]at h;subst h;exact ⟨z,Nat.le_trans (jna ha) (hl _ (by simp))⟩
  cases h
 split at h
 .split at h
  .rename_i a;cases ha:angP a with
   | none=>rw[ha]at h;cases h
   | some q=>rw[ha]at h;cases h;exact ⟨z,Nat.le_trans (jna ha) (hl _ (by simp))⟩
  .rename_i a o;cases ha:angP a with
   | none=>rw[ha]at h;cases h
   | some q=>
    rw[ha]at h;cases ho:optP o notW with
    | none=>simp[ho]at h
    | some w=>
     cases hn:QEa w with
     | none=>simp[ho,hn]at h
     | some m=>simp[ho,hn]at h;subst h;exact ⟨z,Nat.le_trans (jna ha) (hl _ (by simp))⟩
  cases h
 split at h
 .split at h
  .rename_i n;cases hn:numP n with
   | none=>simp[hn]at h
   | some m=>simp[hn]at h;subst h;exact ⟨z,z⟩
  .rename_i n x;cases hn:numP n with
   | none=>simp[hn]at h
   | some m=>simp[hn]at h;obtain ⟨_,rfl⟩:=h;exact ⟨z,z⟩
  cases h
 split at h
 .cases h;exact ⟨z,z⟩
 cases h
theorem V0a(s:Str)(hs:s.length<=1048576):v3a s=some (ZYa s):=by
 unfold v3a ZYa;by_cases h4:4000 < s.length
 .rw[decide_eq_true (by omega),if_pos h4];rfl
 rw[decide_eq_false (by omega),if_neg h4];have hw:∀x∈w9a s,x.length<=1048576:=fun x hx=>by have:=Jka hx;omega
 have hf:kEa s=some (w9a s):=by
  unfold kEa;rw[if_pos (by omega),qIb]
 rw[hf,VXa];simp only[cond_false,Option.bind_some,zWa,kAa,zQa];rw[QFa _ hw];simp only[Option.bind_some];generalize w9a s=w at hw ⊢;cases w with
 | nil=>rfl
 | cons y r=>
  have e:qLb (y::r)=qKb (lowP y):=rfl;rw[e];rcases Yga (lowP y) with ⟨h0,_⟩ | ⟨v,h1,h8,hv,_⟩
  .rw[h0];rfl
  rw[hv];have e0:(v==0)=false:=by rw[beq_eq_false_iff_ne];omega
  rw[e0,if_neg (by omega)];have ec:cut (y::r) 1 (((y::r).length:Nat):Int)=some r:=by
   have:=jha (l:=y::r) (a:=1) (by simp);exact this
  rw[ec];simp only[cond_false,Option.bind_some,List.drop_succ_cons,List.drop_zero];have hr:∀x∈r,x.length<=1048576:=fun x hx=>hw x (by simp[hx])
  obtain ⟨c,h2,h3⟩:=Yfa v r hr (by omega);rw[h2];simp only[Option.bind_some];cases ha:wea v r with
  | none=>rfl
  | some z=>
   have:=h3 z ha;subst this;have hsm:=qMb hr ha;simp only[Option.isSome_some,Bool.not_true,cond_false,Qca c hsm,Option.bind_some];unfold finP;cases hq:(cmdF c).Code !=0 with
   | true=>rfl
   | false=>rfl
theorem wpb(s:Str)(hs:s.length<=1048576):∀(r p word:Str) (out:List Str),s=p++r->word.length<=p.length->out.length<=p.length->iter (vla s) (word,(p.length:Int),out)=some (out++wrd word r):=by
 intro r;induction r with
 | nil=>
  intro p word out hp hw ho;rw[List.append_nil]at hp;subst hp;have hb:vla s (word,(s.length:Int),out)=some (.cont ([],((s.length+1:Nat):Int),out++nonE [word])):=by
   unfold vla;dsimp only;rw[decide_eq_true (by omega),zMa];simp only[cond_true,cond_false,Option.bind_some];rw[sc s.length (by omega)];by_cases he:word=[]
   .subst he;simp[nonE]
   have h1:(word !=([]:Str))=true:=by simpa using he
   have h2:nonE [word]=[word]:=by
    cases word with
    | nil=>exact absurd rfl he
    | cons b t=>rfl
   rw[h1,h2,kla (by simp;omega)];rfl
  rw[zOa hb,y8b];refine zAa ?_;unfold vla;dsimp only;rw[decide_eq_false (by omega)];rfl
 | cons b r ih=>
  intro p word out hp hw ho;have hlen:s.length=p.length+(r.length+1):=by rw[hp];simp
  have hget:idx s (p.length:Int)=some b:=by rw[hp];exact qub p b r
  by_cases hb:b=32
  .subst hb;have wEa:vla s (word,(p.length:Int),out)=some (.cont ([],((p.length+1:Nat):Int),out++nonE [word])):=by
    unfold vla;dsimp only;rw[decide_eq_true (by omega),decide_eq_true (by omega:(p.length:Int) < (s.length:Int)),hget];have e32:(((32:UInt8).toNat:Int) !=32)=false:=rfl;simp only[cond_true,Option.bind_some,e32,cond_false];rw[sc p.length (by omega)];by_cases he:word=[]
    .subst he;simp[nonE]
    have h1:(word !=([]:Str))=true:=by simpa using he
    have h2:nonE [word]=[word]:=by
     cases word with
     | nil=>exact absurd rfl he
     | cons b t=>rfl
    rw[h1,h2,kla (by simp;omega)];rfl
   rw[zOa wEa,wrd_sp,<-List.append_assoc];have h3:=ih (p++ [32]) [] (out++nonE [word]) (by rw[hp];simp) (by simp) (by
    have:(nonE [word]).length<=1:=by unfold nonE;exact List.length_filter_le _ _
    simp;omega)
   simp only[List.length_append,List.length_cons,List.length_nil]at h3;rw[show 0+1=1 from rfl]at h3;exact h3
  have wEa:vla s (word,(p.length:Int),out)=some (.cont (word++ [b],((p.length+1:Nat):Int),out)):=by
   unfold vla;dsimp only;have e32:((b.toNat:Int) !=32)=true:=by
    have:=Kwa b 32 (by decide);rw[show ((b.toNat:Int) !=32)=(b !=32) from this];simpa using hb
   rw[decide_eq_true (by omega),decide_eq_true (by omega:(p.length:Int) < (s.length:Int)),hget];simp only[cond_true,Option.bind_some,e32];rw[sc p.length (by omega),vgb (by omega) (by omega)];have e:(s.drop p.length).take (p.length+1 - p.length)=[b]:=by rw[hp,show p.length+1 - p.length=1 by omega];simp
   rw[e];simp only[Option.bind_some];rw[yTa (by simp;omega)];rfl
  rw[zOa wEa];have h3:=ih (p++ [b]) (word++ [b]) out (by rw[hp];simp) (by simp;omega) (by simp;omega);simp only[List.length_append,List.length_cons,List.length_nil]at h3;rw[show 0+1=1 from rfl]at h3;rw[h3];have:=Yba (k:=[b]) word r (by simpa using fun h=>hb h.symm);rw[<-this];rfl
theorem wqb(s:Str)(hs:s.length<=1048576):qsb s=some (w9a s):=by
 have:=wpb s hs s [] [] [] rfl (by simp) (by simp);unfold qsb;rw[show (([]:Str),(0:Int),([]:List Str))=(([]:Str),((([]:Str).length:Nat):Int),([]:List Str)) from rfl,this,y7b];rfl
theorem Jla(o n:Str)(ho:o.length<=1048576)(hn:n.length<=100):Q8a o (n++ [61])=some (match optP o n with | some y=>(y,true) | none=>([],false)):=by
 have hll:(lowP o).length=o.length:=by unfold lowP;simp
 unfold Q8a;rw[Vla o ho];simp only[Option.bind_some];have hpre:((n++ [61]).isPrefixOf (lowP o))=decide ((lowP o).take (n++ [61]).length=n++ [61]):=by
  rw[Bool.eq_iff_iff,List.isPrefixOf_iff_prefix,List.prefix_iff_eq_take,decide_eq_true_eq];exact eq_comm
 unfold optP;rw[hpre];by_cases hlt:(lowP o).length < (n++ [61]).length
 .rw[decide_eq_true (by omega)];have:¬(lowP o).take (n++ [61]).length=n++ [61]:=by
   intro h;have:=congrArg List.length h;rw[List.length_take]at this;omega
  rw[decide_eq_false this];rfl
 rw[decide_eq_false (by omega)];simp only[cond_false];rw[Zoa (by omega)];simp only[Option.bind_some];by_cases h:(lowP o).take (n++ [61]).length=n++ [61]
 .have e:((lowP o).take (n++ [61]).length !=n++ [61])=false:=by rw[h];simp
  rw[e,decide_eq_true h];simp only[cond_false];rw[jha (by omega)];simp
 have e:((lowP o).take (n++ [61]).length !=n++ [61])=true:=by simpa using h
 rw[e,decide_eq_false h];rfl
theorem jgb(w:List Str)(hw:∀s∈w,s.length<=1048576):iter (qMa w) (1,0)=some (qLb w):=by
 cases w with
 | nil=>exact zAa (by unfold qMa;rfl)
 | cons y r=>
  obtain ⟨t,h1,h2,h3⟩:=Kna QDa (fun i (s:Int)=>(i+1,s)) (fun i s x=>if lowP y==x then ((i+1:Nat):Int) else s) id (fun _ _=>True) (body:=qMa (y::r))
   (fun s _=>by unfold qMa;rfl) (fun i x s hx _=>by
    have hi:=zLa hx;have h8:QDa.length=8:=rfl;refine ⟨?_,trivial⟩;unfold qMa;dsimp only;have e1:decide ((0:Int) < (((y::r).length:Nat):Int))=true:=by simp
    have e2:idx (y::r) 0=some y:=rfl;have e3:zrb ((i:Int)+1)=x:=by
     unfold zrb;rw[show ((i:Int)+1 - 1).toNat=i by omega,List.getD_eq_getElem?_getD,hx];rfl
    rw[decide_eq_true (by omega),e1,e2,jfb (by omega),e3];simp only[cond_true,Option.bind_some,Vla y (hw y (by simp))];rw[qja (by omega) (by omega)];cases lowP y==x with
    | true=>simp
    | false=>simp) 0 trivial
  rw[show ((1:Int),(0:Int))=((0:Int)+1,0) from rfl];rw[h1,h3];rfl
theorem kqb(s:Str)(b:Bool)(n0:Int):iter (qOa (s,b)) (false,0,n0)=some (match (if b then QEa s else none) with | some n=>(true,n) | none=>(false,n0)):=by
 cases b with
 | false=>
  refine zAa ?_;unfold qOa;rfl
 | true=>
  obtain ⟨t,h1,h2,h3⟩:=Kna ZXa (fun i (q:Bool × Int)=>(q.1,i,q.2)) (fun i q x=>if x==s then (true,(i:Int)) else q) id (fun _ _=>True) (body:=qOa (s,true))
   (fun q _=>by unfold qOa;rfl) (fun i x q hx _=>by
    have hi:=zLa hx;have h8:ZXa.length=8:=rfl;refine ⟨?_,trivial⟩;have hc:qJb (i:Int)=x:=by
     unfold qJb;rw[Int.toNat_natCast,List.getD_eq_getElem?_getD,hx];rfl
    unfold qOa;dsimp only;rw[decide_eq_true (by omega),Yda (by omega),hc];simp only[cond_true,Option.bind_some,sc i (by omega)];cases x==s <;> rfl) (false,n0) trivial
  rw[h1,h3,if_pos rfl];have key:ZXa.zipIdx.foldl (fun (q:Bool × Int) p=>if p.1==s then (true,((p.2:Nat):Int)) else q) (false,n0)=(match QEa s with | some n=>(true,n) | none=>(false,n0)):=by
   by_cases h:s∈ZXa
   .have:∀z∈ZXa,∃k:Fin 8,QEa z=some (k.val:Int)/\∀n:Int,ZXa.zipIdx.foldl (fun (q:Bool × Int) p=>if p.1==z then (true,((p.2:Nat):Int)) else q) (false,n)=(true,(k.val:Int)):=by
     intro z hz;simp only[ZXa,List.mem_cons,List.not_mem_nil,or_false]at hz;rcases hz with rfl | rfl | rfl | rfl | rfl | rfl | rfl | rfl
     .exact ⟨0,rfl,fun n=>rfl⟩
     .exact ⟨1,rfl,fun n=>rfl⟩
     .exact ⟨2,rfl,fun n=>rfl⟩
     .exact ⟨3,rfl,fun n=>rfl⟩
     .exact ⟨4,rfl,fun n=>rfl⟩
     .exact ⟨5,rfl,fun n=>rfl⟩
     .exact ⟨6,rfl,fun n=>rfl⟩
     exact ⟨7,rfl,fun n=>rfl⟩
    obtain ⟨k,h4,h5⟩:=this s h;rw[h4,h5 n0]
   have h6:QEa s=none:=by
    unfold QEa;rw[vLa];intro i x hx;have hne:(x==s)=false:=by
     rw[beq_eq_false_iff_ne];rintro rfl;exact h (List.mem_of_getElem? hx)
    simp[hne]
   rw[h6];simp only[ZXa,List.mem_cons,List.not_mem_nil,or_false,not_or]at h;obtain ⟨a1,a2,a3,a4,a5,a6,a7,a8⟩:=h;simp[ZXa,List.zipIdx,Ne.symm a1,Ne.symm a2,Ne.symm a3,Ne.symm a4,Ne.symm a5,Ne.symm a6,Ne.symm a7,Ne.symm a8]
  rw[key];rfl
theorem jhb(v:Int)(n a:Str)(z o:Int)(b:Bool)(h:zqb ⟨v,n,a,z,o,b⟩):qNa v (n,a,0) (z,o,b)=some (finP ⟨v,n,a,z,o,b⟩):=by
 unfold qNa finP;rw[Vma _ h];simp only[Option.bind_some];cases hc:(cmdF ⟨v,n,a,z,o,b⟩).Code !=0 with
 | true=>rfl
 | false=>
  have:=(jbb (c:=⟨v,n,a,z,o,b⟩) (by simpa using hc)).2;rw[this];rfl
theorem krb(v:Int)(n a:Str)(q z o:Int)(b:Bool):qNa v (n,a,q) (z,o,b)=qNa v (n,a,0) (z,o,b):=rfl
theorem Wja(a:Str):(((bif decide ((a.length:Int) < 2) then some true else (idx a 0).bind fun v84=>(bif ((v84.toNat:Int) !=60) then some true else (idx a ((w64 ((a.length:Int) - 1)))).bind fun v89=>some (((v89.toNat:Int) !=62)))):Option Bool))=some (!(angP a).isSome)∨4611686018427387904<=a.length:=by
 by_cases hbig:4611686018427387904<=a.length
 .exact .inr hbig
 left
 match a with
 | []=>rfl
 | [b]=>
  have:angP [b]=none:=by unfold angP;simp
  rw[this];rfl
 | b::c::r=>
  have e1:decide ((((b::c::r).length:Nat):Int) < 2)=false:=by simp;omega
  have e2:idx (b::c::r) 0=some b:=rfl;have e3:idx (b::c::r) (w64 ((((b::c::r).length:Nat):Int) - 1))=(c::r).getLast? :=by
   have hl:(b::c::r).length=r.length+2:=rfl;rw[qja (by omega) (by omega),show (((b::c::r).length:Nat):Int) - 1=((r.length+1:Nat):Int) by omega,wCa];rw[List.getLast?_eq_getElem?];simp
  rw[e1,e2,e3];obtain ⟨w,e4⟩:∃w,(c::r).getLast? =some w:=⟨_,List.getLast?_eq_some_getLast (by simp)⟩;rw[e4];simp only[cond_false,Option.bind_some];have e5:=Kwa b 60 (by decide);have e6:=Kwa w 62 (by decide);rw[show ((b.toNat:Int) !=60)=(b !=60) from e5,show ((w.toNat:Int) !=62)=(w !=62) from e6];have hap:angP (b::c::r)=if b=60/\(c::r).getLast? =some 62 then some (c::r).dropLast else none:=rfl;rw[hap,e4];by_cases h1:b=60
  .subst h1;by_cases h2:w=62
   .simp[h2]
   have h3:(w !=62)=true:=by simpa using h2
   rw[h3];simp[h2]
  have h3:(b !=60)=true:=by simpa using h1
  rw[h3];simp[h1]
theorem Wka{a y:Str}(h:angP a=some y)(hl:a.length<=1048576):cut a 1 (w64 ((a.length:Int) - 1))=some y:=by
 unfold angP at h;split at h
 .rename_i b r;split at h
  .rename_i hb;cases h;have hr:r≠ []:=by
    intro e;subst e;simp at hb
   have hp:=List.length_pos_iff.2 hr;have hl2:(b::r).length=r.length+1:=rfl;rw[qja (by omega) (by omega),show (((b::r).length:Nat):Int) - 1=((r.length:Nat):Int) by omega];have:=vgb (l:=b::r) (a:=1) (b:=r.length) (by omega) (by simp);rw[show ((1:Nat):Int)=1 from rfl]at this;rw[this];simp[List.dropLast_eq_take]
  cases h
 cases h
def badC:zla × zra:=(noC,⟨11, -3⟩)
theorem jib(v:Int)(a b:Str)(n ad:Str)(z:Int)(hn:n.length<=1048576)(had:ad.length<=1048576)(hb:b.length<=1048576):
 kya v ⟨11, -3⟩ [a,b] (n,ad,z)=some (
  if v=2 then (match (optP b VZa).bind numP with | some m=>finP ⟨2,n,ad,(m:Int),0,false⟩ | none=>badC)
  else if v=3 then (match (optP b notW).bind QEa with | some m=>finP ⟨3,n,ad,z,m,false⟩ | none=>badC)
  else if v=5 then (if lowP b=kpb then finP ⟨5,n,ad,z,0,true⟩ else badC) else badC):=by
 have e4:(((([a,b]:List Str).length:Nat):Int)==2)=true:=rfl;have e3:idx [a,b] 1=some b:=rfl;unfold kya;rw[e4,e3];simp only[Option.bind_some,cond_true];rcases five v with rfl | rfl | rfl | rfl | ⟨h1,h2,h3,h5⟩
 .rw[if_neg (by omega),if_neg (by omega),if_neg (by omega)];rfl
 .rw[if_pos rfl];have ha:=Jla b VZa hb (by decide);have ha' :Q8a b ([115,105,122,101,61]:Str)=_:=ha;simp only[show ((2:Int)==3)=false from rfl,show ((2:Int)==2)=true from rfl,cond_true,cond_false,Option.bind_some];rw[ha'];simp only[Option.bind_some];cases ho:optP b VZa with
  | none=>
   simp only[Option.bind_none];rw[Zia [] (by decide)];rfl
  | some w=>
   have hwl:w.length<=1048576:=by
    unfold optP at ho;split at ho
    .cases ho;have:(lowP b).length=b.length:=by unfold lowP;simp
     simp;omega
    cases ho
   simp only[Option.bind_some];rw[Zia w hwl];cases hm:numP w with
   | none=>rfl
   | some m=>
    simp only[Option.bind_some,cond_true];rw[decide_eq_true (by omega)];simp only[Bool.not_true,cond_false];rw[krb,jhb _ _ _ _ _ _ ⟨hn,had⟩]
 .rw[if_neg (by omega),if_pos rfl];have ha:=Jla b notW hb (by decide);have ha' :Q8a b ([110,111,116,105,102,121,61]:Str)=_:=ha;simp only[show ((3:Int)==3)=true from rfl,show ((3:Int)==2)=false from rfl,cond_true,cond_false,Option.bind_some];rw[ha'];simp only[Option.bind_some];cases ho:optP b notW with
  | none=>
   simp only[Option.bind_none];rw[kqb];rfl
  | some w=>
   simp only[Option.bind_some];rw[kqb,if_pos rfl];cases hm:QEa w with
   | none=>rfl
   | some m=>
    simp only[Option.bind_some,Bool.not_true,cond_false];rw[krb,jhb _ _ _ _ _ _ ⟨hn,had⟩]
 .rw[if_neg (by omega),if_neg (by omega),if_pos rfl];simp only[show ((5:Int)==3)=false from rfl,show ((5:Int)==2)=false from rfl,show ((5:Int)==5)=true from rfl,cond_true,cond_false,Option.bind_some,Vla b hb];have hw:(lowP b==([108,97,115,116]:Str))=decide (lowP b=kpb):=by rw[Bool.eq_iff_iff,beq_iff_eq,decide_eq_true_eq];exact Iff.rfl
  rw[hw];by_cases hl:lowP b=kpb
  .rw[decide_eq_true hl,if_pos hl];simp only[Bool.not_true,cond_false];rw[krb,jhb _ _ _ _ _ _ ⟨hn,had⟩]
  rw[decide_eq_false hl,if_neg hl];rfl
 rw[if_neg (by simpa using h2),if_neg (by simpa using h3),if_neg (by simpa using h5),h2,h3,h5];rfl
theorem QGa(v:Int)(f:zra)(l:List Str)(n ad:Str)(z:Int)(hl:l.length<=1)(hn:n.length<=1048576)(had:ad.length<=1048576):
 kya v f l (n,ad,z)=some (finP ⟨v,n,ad,z,if v=3 then 1 else 0,false⟩):=by
 have e4:(((l.length:Nat):Int)==2)=false:=by rw[beq_eq_false_iff_ne];omega
 unfold kya;rw[e4];by_cases h3:v=3
 .subst h3;simp only[show ((3:Int)==3)=true from rfl,cond_true,cond_false,Option.bind_some,if_true];rw[krb,jhb _ _ _ _ _ _ ⟨hn,had⟩]
 have:(v==3)=false:=by simpa using h3
 simp only[this,cond_false,Option.bind_some,if_neg h3];rw[krb,jhb _ _ _ _ _ _ ⟨hn,had⟩]
theorem YIa(s:Str)(hs:s.length<=1048576):KZa s=some (ZYa s):=by
 unfold KZa ZYa;by_cases h4:4000 < s.length
 .rw[decide_eq_true (by omega),if_pos h4];rfl
 rw[decide_eq_false (by omega),if_neg h4];have hw:∀x∈w9a s,x.length<=1048576:=fun x hx=>by have:=Jka hx;omega
 rw[wqb s hs];simp only[cond_false,Option.bind_some,K5a];rw[jgb _ hw];simp only[Option.bind_some];have hwl:(w9a s).length<=1048577:=by
  have h1:=kob 32 s;have h2:(w9a s).length<=(vCa 32 s).length:=List.length_filter_le _ _;omega
 generalize w9a s=w at hw hwl ⊢;cases w with
 | nil=>rfl
 | cons y r=>
  have e:qLb (y::r)=qKb (lowP y):=rfl;rw[e];rcases Yga (lowP y) with ⟨h0,_⟩ | ⟨v,h1,h8,hv,_⟩
  .rw[h0];rfl
  rw[hv];have e0:(v==0)=false:=by rw[beq_eq_false_iff_ne];omega
  rw[e0,if_neg (by omega)];have ec:cut (y::r) 1 (((y::r).length:Nat):Int)=some r:=by
   have:=jha (l:=y::r) (a:=1) (by simp);exact this
  rw[ec];simp only[cond_false,Option.bind_some,List.drop_succ_cons,List.drop_zero];have hr:∀x∈r,x.length<=1048576:=fun x hx=>hw x (by simp[hx])
  have hrl:r.length<=1048576:=by simp at hwl;omega
  have z:([]:Str).length<=1048576:=by decide
  have low:∀(a b:Int),R_In (r.length:Int) a b=some (decide (a<=(r.length:Int)) && decide ((r.length:Int)<=b)):=fun a b=>vMa _ _ _
  have many3:∀(a b c:Str) (t:List Str) (v:Int),wea v (a::b::c::t)=none:=by
   intro a b c t v;unfold wea;repeat' split <;> first | rfl | (rename_i h;cases h) | skip
  have lastCase:∀(t:List Str) (v:Int),(v=4∨v=6∨v=7∨v=8)->wea v t=(if t.isEmpty then some ⟨v,[],[],0,0,false⟩ else none):=by
   intro t v hv;unfold wea;rw[if_neg (by omega),if_neg (by omega),if_neg (by omega),if_neg (by omega)];cases t <;> rfl
  have quiet:∀v:Int,(v=4∨v=6∨v=7∨v=8)->∀(X:Option (zla × zra)),(r=[]->X=kya v ⟨11, -3⟩ r ([],[],0))->
   (bif !(decide ((0:Int)<=(r.length:Int)) && decide ((r.length:Int)<=0)) then some (noC,(⟨11, -3⟩:zra)) else X)=some (match wea v r with | none=>(noC,⟨11, -3⟩) | some c=>finP c):=by
   intro v hv X hX;rw[lastCase r v hv];cases r with
   | nil=>
    rw[hX rfl,QGa v _ [] [] [] 0 (by simp) z z,if_neg (by omega)];rfl
   | cons a t=>
    have e1:(decide ((0:Int)<=(((a::t).length:Nat):Int)) && decide ((((a::t).length:Nat):Int)<=0))=false:=by simp
    rw[e1];rfl
  have bad:(⟨11, -3⟩:zra)=⟨11, -3⟩:=rfl;have hv8:v=1∨v=2∨v=3∨v=4∨v=5∨v=6∨v=7∨v=8:=by omega
  rcases hv8 with rfl | rfl | rfl | rfl | rfl | rfl | rfl | rfl
  .rw[show idx ([1,1,1,0,1,0,0,0]:List Int) (w64 (1 - 1))=some 1 from by decide,show idx ([1,2,2,0,2,0,0,0]:List Int) (w64 (1 - 1))=some 1 from by decide];simp only[Option.bind_some,low]
   match r,hr with
   | [],_=>rfl
   | [n],hr=>
    have e2:idx [n] 0=some n:=rfl;have e5:(decide ((1:Int)<=(((([n]:List Str).length:Nat):Int))) && decide ((((([n]:List Str).length:Nat):Int))<=1))=true:=rfl;rw[e5,e2];simp only[Bool.not_true,cond_false,show ((1:Int)==1)=true from rfl,cond_true,Option.bind_some];rw[QGa 1 _ [n] n [] 0 (by simp) (hr n (by simp)) z];rfl
   | a::b::t,_=>
    have e1:(decide ((1:Int)<=(((a::b::t).length:Nat):Int)) && decide ((((a::b::t).length:Nat):Int)<=1))=false:=by simp;omega
    rw[e1];rfl
  .rw[show idx ([1,1,1,0,1,0,0,0]:List Int) (w64 (2 - 1))=some 1 from by decide,show idx ([1,2,2,0,2,0,0,0]:List Int) (w64 (2 - 1))=some 2 from by decide];simp only[Option.bind_some,low]
   match r,hr with
   | [],_=>rfl
   | [a],hr=>
    have e2:idx [a] 0=some a:=rfl;have e5:(decide ((1:Int)<=(((([a]:List Str).length:Nat):Int))) && decide ((((([a]:List Str).length:Nat):Int))<=2))=true:=rfl;have hal:=hr a (by simp);rw[e5,e2,ap2];simp only[Bool.not_true,cond_false,show ((2:Int)==1)=false from rfl,show ((2:Int)==2)=true from rfl,cond_true,Option.bind_some];rcases Wja a with ha | ha
    .rw[ha];cases hp:angP a with
     | none=>rfl
     | some q=>
      simp only[Option.isSome_some,Bool.not_true,cond_false,Option.bind_some,Wka hp hal];rw[QGa 2 _ [a] [] q 0 (by simp) z (Nat.le_trans (jna hp) hal)];rfl
    omega
   | [a,o],hr=>
    have e2:idx [a,o] 0=some a:=rfl;have e5:(decide ((1:Int)<=(((([a,o]:List Str).length:Nat):Int))) && decide ((((([a,o]:List Str).length:Nat):Int))<=2))=true:=rfl;have hal:=hr a (by simp);rw[e5,e2,ap22];simp only[Bool.not_true,cond_false,show ((2:Int)==1)=false from rfl,show ((2:Int)==2)=true from rfl,cond_true,Option.bind_some];rcases Wja a with ha | ha
    .rw[ha];cases hp:angP a with
     | none=>rfl
     | some q=>
      simp only[Option.isSome_some,Bool.not_true,cond_false,Option.bind_some,Wka hp hal];rw[jib 2 a o [] q 0 z (Nat.le_trans (jna hp) hal) (hr o (by simp)),if_pos rfl];cases optP o VZa with
      | none=>rfl
      | some w=>
       simp only[Option.bind_some];cases numP w <;> rfl
    omega
   | a::b::c::t,_=>
    have e1:(decide ((1:Int)<=(((a::b::c::t).length:Nat):Int)) && decide ((((a::b::c::t).length:Nat):Int)<=2))=false:=by simp;omega
    rw[e1,many3];rfl
  .rw[show idx ([1,1,1,0,1,0,0,0]:List Int) (w64 (3 - 1))=some 1 from by decide,show idx ([1,2,2,0,2,0,0,0]:List Int) (w64 (3 - 1))=some 2 from by decide];simp only[Option.bind_some,low]
   match r,hr with
   | [],_=>rfl
   | [a],hr=>
    have e2:idx [a] 0=some a:=rfl;have e5:(decide ((1:Int)<=(((([a]:List Str).length:Nat):Int))) && decide ((((([a]:List Str).length:Nat):Int))<=2))=true:=rfl;have hal:=hr a (by simp);rw[e5,e2,ap3];simp only[Bool.not_true,cond_false,show ((3:Int)==1)=false from rfl,show ((3:Int)==2)=false from rfl,show ((3:Int)==3)=true from rfl,cond_true,Option.bind_some];rcases Wja a with ha | ha
    .rw[ha];cases hp:angP a with
     | none=>rfl
     | some q=>
      simp only[Option.isSome_some,Bool.not_true,cond_false,Option.bind_some,Wka hp hal];rw[QGa 3 _ [a] [] q 0 (by simp) z (Nat.le_trans (jna hp) hal)];rfl
    omega
   | [a,o],hr=>
    have e2:idx [a,o] 0=some a:=rfl;have e5:(decide ((1:Int)<=(((([a,o]:List Str).length:Nat):Int))) && decide ((((([a,o]:List Str).length:Nat):Int))<=2))=true:=rfl;have hal:=hr a (by simp);rw[e5,e2,ap33];simp only[Bool.not_true,cond_false,show ((3:Int)==1)=false from rfl,show ((3:Int)==2)=false from rfl,show ((3:Int)==3)=true from rfl,cond_true,Option.bind_some];rcases Wja a with ha | ha
    .rw[ha];cases hp:angP a with
     | none=>rfl
     | some q=>
      simp only[Option.isSome_some,Bool.not_true,cond_false,Option.bind_some,Wka hp hal];rw[jib 3 a o [] q 0 z (Nat.le_trans (jna hp) hal) (hr o (by simp)),if_neg (by omega),if_pos rfl];cases optP o notW with
      | none=>rfl
      | some w=>
       simp only[Option.bind_some];cases QEa w <;> rfl
    omega
   | a::b::c::t,_=>
    have e1:(decide ((1:Int)<=(((a::b::c::t).length:Nat):Int)) && decide ((((a::b::c::t).length:Nat):Int)<=2))=false:=by simp;omega
    rw[e1,many3];rfl
  .rw[show idx ([1,1,1,0,1,0,0,0]:List Int) (w64 (4 - 1))=some 0 from by decide,show idx ([1,2,2,0,2,0,0,0]:List Int) (w64 (4 - 1))=some 0 from by decide];simp only[Option.bind_some,low];exact quiet 4 (by omega) _ (fun _=>rfl)
  .rw[show idx ([1,1,1,0,1,0,0,0]:List Int) (w64 (5 - 1))=some 1 from by decide,show idx ([1,2,2,0,2,0,0,0]:List Int) (w64 (5 - 1))=some 2 from by decide];simp only[Option.bind_some,low]
   match r,hr with
   | [],_=>rfl
   | [a],hr=>
    have e2:idx [a] 0=some a:=rfl;have e5:(decide ((1:Int)<=(((([a]:List Str).length:Nat):Int))) && decide ((((([a]:List Str).length:Nat):Int))<=2))=true:=rfl;have hal:=hr a (by simp);rw[e5,e2,ap5];simp only[Bool.not_true,cond_false,show ((5:Int)==1)=false from rfl,show ((5:Int)==2)=false from rfl,show ((5:Int)==3)=false from rfl,show ((5:Int)==5)=true from rfl,cond_true,Option.bind_some,Zia a hal];cases hn:numP a with
    | none=>rfl
    | some m=>
     have hm0:¬((m:Nat):Int) < 0:=by omega
     dsimp only;rw[decide_eq_false hm0];simp only[cond_false];rw[QGa 5 _ [a] [] [] _ (by simp) z z];rfl
   | [a,o],hr=>
    have e2:idx [a,o] 0=some a:=rfl;have e5:(decide ((1:Int)<=(((([a,o]:List Str).length:Nat):Int))) && decide ((((([a,o]:List Str).length:Nat):Int))<=2))=true:=rfl;have hal:=hr a (by simp);rw[e5,e2,ap55];simp only[Bool.not_true,cond_false,show ((5:Int)==1)=false from rfl,show ((5:Int)==2)=false from rfl,show ((5:Int)==3)=false from rfl,show ((5:Int)==5)=true from rfl,cond_true,Option.bind_some,Zia a hal];cases hn:numP a with
    | none=>rfl
    | some m=>
     have hm0:¬((m:Nat):Int) < 0:=by omega
     dsimp only;rw[decide_eq_false hm0];simp only[cond_false];rw[jib 5 a o [] [] _ z z (hr o (by simp)),if_neg (by omega),if_neg (by omega),if_pos rfl];simp only[Option.bind_some];by_cases hx:lowP o=kpb
     .rw[if_pos hx,if_pos hx]
     rw[if_neg hx,if_neg hx];rfl
   | a::b::c::t,_=>
    have e1:(decide ((1:Int)<=(((a::b::c::t).length:Nat):Int)) && decide ((((a::b::c::t).length:Nat):Int)<=2))=false:=by simp;omega
    rw[e1,many3];rfl
  .rw[show idx ([1,1,1,0,1,0,0,0]:List Int) (w64 (6 - 1))=some 0 from by decide,show idx ([1,2,2,0,2,0,0,0]:List Int) (w64 (6 - 1))=some 0 from by decide];simp only[Option.bind_some,low];exact quiet 6 (by omega) _ (fun _=>rfl)
  .rw[show idx ([1,1,1,0,1,0,0,0]:List Int) (w64 (7 - 1))=some 0 from by decide,show idx ([1,2,2,0,2,0,0,0]:List Int) (w64 (7 - 1))=some 0 from by decide];simp only[Option.bind_some,low];exact quiet 7 (by omega) _ (fun _=>rfl)
  rw[show idx ([1,1,1,0,1,0,0,0]:List Int) (w64 (8 - 1))=some 0 from by decide,show idx ([1,2,2,0,2,0,0,0]:List Int) (w64 (8 - 1))=some 0 from by decide];simp only[Option.bind_some,low];exact quiet 8 (by omega) _ (fun _=>rfl)
abbrev Ses:=zea
def cv(x:Ses):zda:=⟨x.Server,x.replies,x.mails⟩
def sayS(x:Ses)(code:Int)(l:List Str):Ses:=⟨x.Server,x.replies++ [⟨code,l⟩],x.mails⟩
def abS(x:Ses):Ses:=⟨{x.Server with Mailing:=false,From:=[],To:=[],Data:=[],Lost:=0,Chunked:=false},x.replies,x.mails⟩
def qaa(x:Ses)(c:UInt8):Ses:=if (x.Server.Data.length:Int) < x.Server.Size then ⟨{x.Server with Data:=x.Server.Data++ [c]},x.replies,x.mails⟩ else ⟨{x.Server with Lost:=min (x.Server.Lost+1) 1099511627776},x.replies,x.mails⟩
def idS(s:zha):Str:=s.Name++ [45]++Lib.decDigits (s.Count+1).toNat
def ksb:Str:=[108,97,114,103,101]
def ztb:Str:=[114,101,102,117,115,101,100]
def VLa:Str:=[111,114,100,101,114]
def okW:Str:=[111,107]
def V1a(x:Ses):Ses:=abS (if 0 < x.Server.Lost then sayS x 552 [ksb] else if (yWa x.Server.Data).2=false∨x.Server.Count=1000000 then sayS x 554 [ztb]
 else sayS ⟨{x.Server with Count:=x.Server.Count+1},x.replies,x.mails++ [⟨⟨x.Server.From,x.Server.To,idS x.Server⟩,(yWa x.Server.Data).1⟩]⟩ 250 [idS x.Server])
def Zsa(x:Ses):Ses:=bif x.Server.Ignore then sayS ⟨{x.Server with Phase:=0,Last:=false,Ignore:=false},x.replies,x.mails⟩ 503 [VLa]
 else bif x.Server.Last then V1a ⟨{x.Server with Phase:=0,Last:=false,Ignore:=false},x.replies,x.mails⟩ else sayS ⟨{x.Server with Phase:=0,Last:=false,Ignore:=false},x.replies,x.mails⟩ 250 [okW]
def addR(x:Ses)(c:zla):List zca:=vTa (x.Server.To++ [⟨c.Address,c.Notify⟩])
def ktb(x:Ses)(c:zla):Ses:=bif (!x.Server.Mailing || x.Server.Chunked) then sayS x 503 [VLa] else if x.Server.Many < ((addR x c).length:Int) then sayS x 452 [[109,97,110,121]] else sayS ⟨{x.Server with To:=addR x c},x.replies,x.mails⟩ 250 [okW]
def sizeW' :Str:=[115,105,122,101,32]
def Yha:Str:=[114,101,99,105,112,105,101,110,116,115,32]
def YJa(x:Ses)(c:zla):Ses:=
 if c.Verb=1 then sayS ⟨{(abS x).Server with Greeted:=true},x.replies,x.mails⟩ 250 [x.Server.Name,sizeW' ++Lib.decDigits x.Server.Size.toNat,Yha++Lib.decDigits x.Server.Many.toNat]
 else if c.Verb=2 then (bif (!x.Server.Greeted || x.Server.Mailing) then sayS x 503 [VLa] else if x.Server.Size < c.Size then sayS x 552 [ksb] else sayS ⟨{x.Server with Mailing:=true,From:=c.Address},x.replies,x.mails⟩ 250 [okW])
 else if c.Verb=3 then ktb x c
 else if c.Verb=4 then (bif (x.Server.To.isEmpty || x.Server.Chunked) then sayS x 503 [VLa] else sayS ⟨{x.Server with Phase:=1},x.replies,x.mails⟩ 354 [[103,111,32,111,110]])
 else if c.Verb=5 then (if c.Size=0 then Zsa ⟨{x.Server with Phase:=2,Left:=c.Size,Last:=c.Last,Ignore:=x.Server.To.isEmpty,Chunked:= !x.Server.To.isEmpty},x.replies,x.mails⟩ else ⟨{x.Server with Phase:=2,Left:=c.Size,Last:=c.Last,Ignore:=x.Server.To.isEmpty,Chunked:= !x.Server.To.isEmpty},x.replies,x.mails⟩)
 else if c.Verb=6 then sayS (abS x) 250 [okW]
 else if c.Verb=8 then (sayS ⟨{(abS x).Server with Phase:=3,Buffer:=[]},x.replies,x.mails⟩ 221 [[98,121,101]])
 else sayS x 250 [okW]
def QHa:Str:=[117,110,107,110,111,119,110]
def jjb:Str:=[115,121,110,116,97,120]
def bufS(x:Ses)(b:List UInt8):Ses:=⟨{x.Server with Buffer:=b},x.replies,x.mails⟩
def zub(x:Ses)(c:UInt8):Ses:=
 if [13,10].isSuffixOf (x.Server.Buffer++ [c]) then
  let r:=ZYa ((x.Server.Buffer++ [c]).take ((x.Server.Buffer++ [c]).length - 2))
  if r.2.Code=18 then sayS (bufS x []) 500 [QHa] else if r.2.Code=0 then YJa (bufS x []) r.1 else sayS (bufS x []) 501 [jjb]
 else if (x.Server.Buffer++ [c]).length=4002 then sayS ⟨{(abS x).Server with Phase:=3,Buffer:=[]},x.replies,x.mails⟩ 500 [QHa]
 else bufS x (x.Server.Buffer++ [c])
def YKa(x:Ses)(d:Int):Ses:=⟨{x.Server with Dots:=d},x.replies,x.mails⟩
def zvb(x:Ses)(c:UInt8):Ses:=
 if x.Server.Dots=0/\c=46 then YKa x 1
 else if x.Server.Dots=1/\c=13 then YKa x 2
 else if x.Server.Dots=2/\c=10 then V1a ⟨{x.Server with Phase:=0,Dots:=0},x.replies,x.mails⟩
 else YKa (qaa (if x.Server.Dots=2 then qaa x 13 else x) c) (if c=13 then 4 else if c=10/\x.Server.Dots=4 then 0 else 3)
def Voa(x:Ses)(c:UInt8):Ses:=
 if x.Server.Phase=0 then zub x c else if x.Server.Phase=1 then zvb x c
 else if x.Server.Phase=2 then
  let y:=bif x.Server.Ignore then x else qaa x c;let z:Ses:=⟨{y.Server with Left:=y.Server.Left - 1},y.replies,y.mails⟩
  if z.Server.Left=0 then Zsa z else z
 else x
structure SI (x:Ses) (n:Nat):Prop where
 size:1<=x.Server.Size/\x.Server.Size<=12000
 many:1<=x.Server.Many/\x.Server.Many<=60
 name:x.Server.Name.length<=40
 data:(x.Server.Data.length:Int)<=x.Server.Size
 buf:x.Server.Buffer.length<=4001
 tos:x.Server.To.length<=60/\∀r∈x.Server.To,k3a r.Address=true/\k4a r.Notify=true
 lost:0<=x.Server.Lost/\x.Server.Lost<=1099511627776
 count:0<=x.Server.Count/\x.Server.Count<=1000000
 left:x.Server.Phase=2->1<=x.Server.Left/\x.Server.Left<=1000000
 chunk:x.Server.To=[]->x.Server.Chunked=false
 dots:x.Server.Phase≠1->x.Server.Dots=0
 reps:x.replies.length<=n
 mails:x.mails.length<=n
theorem ZZa(x:Ses)(code:Int)(l:List Str)(h:x.replies.length<=1000000000):zoa x code l=some (sayS x code l):=by
 unfold zoa;rw[kla (by simp;omega)];rfl
theorem yXa(x:Ses)(code:Int)(l:Str)(h:x.replies.length<=1000000000):vSa (cv x) code l=some (cv (sayS x code [l])):=by
 unfold vSa;rw[kla (by show x.replies.length+_<=_;simp;omega)];rfl
theorem ab_eq(x:Ses):zUa x=some (abS x):=rfl
theorem zwb(x:Ses):vma (cv x)=some (cv (abS x)):=rfl
theorem jkb(x:Ses)(c:UInt8){n:Nat}(h:SI x n):z6a x c=some (qaa x c):=by
 have h1:=h.size;have h2:=h.data;have h3:=h.lost;unfold z6a qaa;by_cases hd:(x.Server.Data.length:Int) < x.Server.Size
 .rw[if_pos hd,decide_eq_true hd];simp only[cond_true];rw[kla (by simp;omega)];rfl
 rw[if_neg hd,decide_eq_false hd];simp only[cond_false];rw[qja (by omega) (by omega)]
theorem qNb(x:Ses)(c:UInt8){n:Nat}(h:SI x n):K2a (cv x) c=some (cv (qaa x c)):=by
 have h1:=h.size;have h2:=h.data;have h3:=h.lost;unfold K2a qaa cv;dsimp only;by_cases hd:(x.Server.Data.length:Int) < x.Server.Size
 .rw[if_pos hd,decide_eq_true hd];simp only[cond_true];rw[kla (by simp;omega)];rfl
 rw[if_neg hd,decide_eq_false hd];simp only[cond_false];by_cases hl:x.Server.Lost < 1099511627776
 .rw[decide_eq_true hl,qja (by omega) (by omega),show min (x.Server.Lost+1) 1099511627776=x.Server.Lost+1 by omega];rfl
 rw[decide_eq_false hl,show min (x.Server.Lost+1) 1099511627776=x.Server.Lost by omega];rfl
theorem joa{x:Ses}{n:Nat}(h:SI x n)(c:UInt8):SI (qaa x c) n:=by
 obtain ⟨a1,a2,a3,a4,a5,a6,a7,a8,a9,a10,a11,a12,a13⟩:=h;unfold qaa;split
 .exact ⟨a1,a2,a3,by simp;omega,a5,a6,a7,a8,a9,a10,a11,a12,a13⟩
 exact ⟨a1,a2,a3,a4,a5,a6,⟨by show 0<=min _ _;omega,by show min _ _<=_;omega⟩,a8,a9,a10,a11,a12,a13⟩
theorem Jma{α:Type}{lim:Nat}(l:List α)(h:l.length<=lim):(nilE l.isEmpty (some ([]:List α)) ((app lim ([]:List α) l).bind fun v=>some v))=some l:=by
 rw[w8b]
 .rw[kla (by simpa using h)];rfl
 intro he;have:=List.isEmpty_iff.1 he;subst this;rw[kla (by simp)];rfl
theorem Yia(l:List zca)(h:l.length<=1048576):zqa l=some l:=Jma l (by omega)
theorem Yja(l:List UInt8)(h:l.length<=1048576):kta l=some l:=Jma l (by omega)
theorem VMa{c:Int}(h:0<=c/\c<=1000000):z5a (w64 (c+1))=some (Lib.decDigits (c+1).toNat)/\wNa (w64 (c+1))=some (Lib.decDigits (c+1).toNat):=by
 have e:w64 (c+1)=(((c+1).toNat:Nat):Int):=by rw[qja (by omega) (by omega)];omega
 rw[e,ZUa _ (by omega),K9a _ (by omega)];simp
theorem jVa{n:Nat}(h:n<=1000001):(Lib.decDigits n).length<=7:=Kqa 6 n (by omega)
theorem jlb(x:Ses){n:Nat}(h:SI x n)(hn:n<=1000000):zZa x=some (V1a x):=by
 obtain ⟨f,hf,hc⟩:=W4a x.Server.Data (by have:=h.size;have:=h.data;omega);have h1:=h.reps;have h2:=h.mails;have h3:=h.name;have h4:=h.tos.1;have h5:=h.count;unfold zZa V1a;rw[hf];simp only[Option.bind_some];by_cases hl:0 < x.Server.Lost
 .rw[if_pos hl,decide_eq_true hl];simp only[cond_true];rw[ZZa _ _ _ (by omega)];rfl
 rw[if_neg hl,decide_eq_false hl];simp only[cond_false,zQa,Option.bind_some];rw[hc];have e:(bif (!(yWa x.Server.Data).2) then some true else some (x.Server.Count==1000000))=some (decide ((yWa x.Server.Data).2=false∨x.Server.Count=1000000)):=by
  cases (yWa x.Server.Data).2 with
  | false=>simp
  | true=>
   simp only[Bool.not_true,cond_false,Option.some.injEq];rw[Bool.eq_iff_iff];simp
 rw[e];simp only[Option.bind_some];by_cases hr:(yWa x.Server.Data).2=false∨x.Server.Count=1000000
 .rw[if_pos hr,decide_eq_true hr];simp only[cond_true];rw[ZZa _ _ _ (by omega)];rfl
 rw[if_neg hr,decide_eq_false hr];simp only[cond_false];rw[yTa (by simp;omega)];simp only[Option.bind_some];rw[(VMa h5).1];simp only[Option.bind_some];have:=jVa (n:=(x.Server.Count+1).toNat) (by omega);rw[yTa (by simp;omega)];simp only[Option.bind_some];rw[Yia _ (by omega)];simp only[Option.bind_some];rw[kla (by simp;omega)];simp only[Option.bind_some];rw[qja (by omega) (by omega),ZZa _ _ _ (by show x.replies.length<=_;omega)];rfl
theorem Jna(x:Ses){n:Nat}(h:SI x n)(hn:n<=1000000):Zca (cv x)=some (cv (V1a x)):=by
 have hf:=YGa x.Server.Data (by have:=h.size;have:=h.data;omega);have h1:=h.reps;have h2:=h.mails;have h3:=h.name;have h4:=h.tos.1;have h5:=h.count;unfold Zca V1a;rw[show (cv x).S=x.Server from rfl,show (cv x).Mails=x.mails from rfl,show (cv x).Replies=x.replies from rfl,hf];simp only[Option.bind_some];by_cases hl:0 < x.Server.Lost
 .rw[if_pos hl,decide_eq_true hl];simp only[cond_true];rw[show ([108,97,114,103,101]:Str)=ksb from rfl,yXa _ _ _ (by omega)];rfl
 rw[if_neg hl,decide_eq_false hl];simp only[cond_false];have e:(bif (!(yWa x.Server.Data).2) then some true else some (x.Server.Count==1000000))=some (decide ((yWa x.Server.Data).2=false∨x.Server.Count=1000000)):=by
  cases (yWa x.Server.Data).2 with
  | false=>simp
  | true=>
   simp only[Bool.not_true,cond_false,Option.some.injEq];rw[Bool.eq_iff_iff];simp
 rw[e];simp only[Option.bind_some];by_cases hr:(yWa x.Server.Data).2=false∨x.Server.Count=1000000
 .rw[if_pos hr,decide_eq_true hr];simp only[cond_true];rw[show ([114,101,102,117,115,101,100]:Str)=ztb from rfl,yXa _ _ _ (by omega)];rfl
 rw[if_neg hr,decide_eq_false hr];simp only[cond_false];rw[yTa (by simp;omega)];simp only[Option.bind_some];rw[(VMa h5).2];simp only[Option.bind_some];have:=jVa (n:=(x.Server.Count+1).toNat) (by omega);rw[yTa (by simp;omega)];simp only[Option.bind_some];rw[kla (by simp;omega)];simp only[Option.bind_some];rw[qja (by omega) (by omega)];exact (congrArg (fun o=>o.bind fun v23=>(vma v23).bind fun v25=>some v25) (yXa ⟨{x.Server with Count:=x.Server.Count+1},x.replies,x.mails++ [⟨⟨x.Server.From,x.Server.To,idS x.Server⟩,(yWa x.Server.Data).1⟩]⟩ 250 (idS x.Server) (by show x.replies.length<=_;omega))).trans rfl
theorem vub:∀(l:List zca) (n:Int),k4a n=true->(∀r∈l,k4a r.Notify=true)->k4a (orL n l)=true
 | [],n,h,_=>h
 | r::l,n,h,hl=>vub l (iOr n r.Notify) (yVb h (hl r (by simp))).2 fun x hx=>hl x (by simp[hx])
theorem VNa:∀(n:Nat) (l:List zca),(∀r∈l,k3a r.Address=true/\k4a r.Notify=true)->(wka n l).length<=l.length/\∀r∈wka n l,k3a r.Address=true/\k4a r.Notify=true
 | 0,l,_=>by simp[wka]
 | n+1,[],_=>by simp[wka]
 | n+1,r::t,h=>by
  obtain ⟨h1,h2⟩:=VNa n (t.filter fun x=> !z7a r.Address x) fun x hx=>h x (by simp[(List.mem_filter.1 hx).1])
  have h3:=List.length_filter_le (fun x=> !z7a r.Address x) t;unfold wka;refine ⟨by simp only[List.length_cons];omega,fun x hx=>?_⟩;rcases List.mem_cons.1 hx with rfl | hx
  .exact ⟨(h r (by simp)).1,vub _ _ (h r (by simp)).2 fun y hy=>(h y (by simp[(List.mem_filter.1 hy).1])).2⟩
  exact h2 x hx
theorem VOa{l:List zca}(h:∀r∈l,k3a r.Address=true/\k4a r.Notify=true):(vTa l).length<=l.length/\∀r∈vTa l,k3a r.Address=true/\k4a r.Notify=true:=VNa l.length l h
theorem jmb{l:List zca}(h:l≠ []):vTa l≠ []:=by
 cases l with
 | nil=>exact absurd rfl h
 | cons r t=>rw[K6a];simp
theorem jnb{l:List zca}(h:∀r∈l,k3a r.Address=true/\k4a r.Notify=true)(hl:l.length<=300):vnb l=(vTa l,⟨0,0⟩):=by
 unfold vnb;rw[if_neg (by omega)];have:zya mq 0 l=none:=vLa.2 fun i x hx=>by
  obtain ⟨h1,h2⟩:=h x (List.mem_of_getElem? hx);unfold mq;rw[h1,h2];rfl
 rw[this]
theorem wrb{l:List zca}(h:∀r∈l,k3a r.Address=true/\k4a r.Notify=true)(hl:l.length<=1048576):WRa l:=⟨hl,fun r hr=>by have:=zsb (h r hr).1;omega⟩
theorem zxb{s:Str}(h:(ZYa s).2.Code=0):YHa (ZYa s).1:=by
 unfold ZYa at h ⊢;split at h
 .exact absurd h (by decide)
 rename_i h1;rw[if_neg h1];split at h
 .exact absurd h (by decide)
 rename_i h2;rw[if_neg h2];cases hc:wea (qLb (w9a s)) ((w9a s).drop 1) with
 | none=>rw[hc]at h;exact absurd h (by decide)
 | some c=>
  rw[hc]at h;have h:(finP c).2.Code=0:=h;show YHa (finP c).1;unfold finP at h ⊢;by_cases hz:(cmdF c).Code=0
  .rw[hz];exact (jbb hz).1
  rw[bne_iff_ne.2 hz]at h;exact absurd h hz
theorem qDa{x:Ses}{n:Nat}(h:SI x n)(code:Int)(l:List Str):SI (sayS x code l) (n+1):=by
 obtain ⟨a1,a2,a3,a4,a5,a6,a7,a8,a9,a10,a11,a12,a13⟩:=h;exact ⟨a1,a2,a3,a4,a5,a6,a7,a8,a9,a10,a11,by show (x.replies++_).length<=_;simp;omega,by show x.mails.length<=_;omega⟩
theorem kub{x:Ses}{n:Nat}(h:SI x n):SI (abS x) n:=by
 obtain ⟨a1,a2,a3,a4,a5,a6,a7,a8,a9,a10,a11,a12,a13⟩:=h;exact ⟨a1,a2,a3,by show ((0:Nat):Int)<=x.Server.Size;omega,a5,⟨by simp[abS],fun r hr=>by simp[abS]at hr⟩,⟨by show (0:Int)<=0;omega,by show (0:Int)<=_;omega⟩,a8,a9,fun _=>rfl,a11,a12,a13⟩
theorem SI.up{x:Ses}{n:Nat}(h:SI x n):SI x (n+1):=by
 obtain ⟨a1,a2,a3,a4,a5,a6,a7,a8,a9,a10,a11,a12,a13⟩:=h;exact ⟨a1,a2,a3,a4,a5,a6,a7,a8,a9,a10,a11,by omega,by omega⟩
theorem vvb{x:Ses}{n:Nat}(h:SI x n):SI (V1a x) (n+1):=by
 unfold V1a;refine kub ?_;split
 .exact qDa h _ _
 split
 .exact qDa h _ _
 rename_i hr;obtain ⟨a1,a2,a3,a4,a5,a6,a7,a8,a9,a10,a11,a12,a13⟩:=h;have hc:x.Server.Count≠1000000:=fun e=>hr (.inr e)
 exact ⟨a1,a2,a3,a4,a5,a6,a7,⟨by show 0<=x.Server.Count+1;omega,by show x.Server.Count+1<=_;omega⟩,a9,a10,a11,by show (x.replies++_).length<=_;simp;omega,by show (x.mails++_).length<=_;simp;omega⟩
theorem kvb{x:Ses}{n:Nat}(h:SI x n)(hd:x.Server.Dots=0):SI ⟨{x.Server with Phase:=0,Last:=false,Ignore:=false},x.replies,x.mails⟩ n:=by
 obtain ⟨a1,a2,a3,a4,a5,a6,a7,a8,a9,a10,a11,a12,a13⟩:=h;exact ⟨a1,a2,a3,a4,a5,a6,a7,a8,fun e=>absurd (show (0:Int)=2 from e) (by decide),a10,fun _=>hd,a12,a13⟩
theorem vwb(x:Ses){n:Nat}(h:SI {x with Server:={x.Server with Phase:=0}} n)(hn:n<=1000000):z8a x=some (Zsa x)/\Zda (cv x)=some (cv (Zsa x)):=by
 have hd:x.Server.Dots=0:=h.dots (by show (0:Int)≠1;decide);have h' :=kvb h hd;have hr:=h.reps;have hr:x.replies.length<=n:=hr;unfold z8a Zda Zsa;rw[show (cv x).S=x.Server from rfl,show (cv x).Mails=x.mails from rfl,show (cv x).Replies=x.replies from rfl];cases x.Server.Ignore with
 | true=>
  simp only[cond_true];rw[ZZa _ _ _ (by show x.replies.length<=_;omega)];exact ⟨rfl,(congrArg (fun o=>o.bind fun v=>some v) (yXa ⟨{x.Server with Phase:=0,Last:=false,Ignore:=false},x.replies,x.mails⟩ 503 VLa (by show x.replies.length<=_;omega))).trans rfl⟩
 | false=>
  cases x.Server.Last with
  | true=>
   simp only[cond_true,cond_false];refine ⟨?_,?_⟩
   .exact (congrArg (fun o=>o.bind fun v=>some v) (jlb ⟨{x.Server with Phase:=0,Last:=false,Ignore:=false},x.replies,x.mails⟩ h' hn)).trans rfl
   exact (congrArg (fun o=>o.bind fun v=>some v) (Jna ⟨{x.Server with Phase:=0,Last:=false,Ignore:=false},x.replies,x.mails⟩ h' hn)).trans rfl
  | false=>
   simp only[cond_false];rw[ZZa _ _ _ (by show x.replies.length<=_;omega)];exact ⟨rfl,(congrArg (fun o=>o.bind fun v=>some v) (yXa ⟨{x.Server with Phase:=0,Last:=false,Ignore:=false},x.replies,x.mails⟩ 250 okW (by show x.replies.length<=_;omega))).trans rfl⟩
theorem Yka{x:Ses}{n:Nat}(h:SI x n){c:zla}(ok:YHa c)(hv:c.Verb=3):∀r∈x.Server.To++ [(⟨c.Address,c.Notify⟩:zca)],k3a r.Address=true/\k4a r.Notify=true:=by
 intro r hr;rcases List.mem_append.1 hr with hr | hr
 .exact h.tos.2 r hr
 rw[List.mem_singleton]at hr;subst hr;refine ⟨ok.addr (.inl hv),?_⟩;have:=ok.note;show k4a c.Notify=true;unfold k4a;rw[decide_eq_true this.1,decide_eq_true this.2];rfl
theorem rcpt_eq(x:Ses){n:Nat}(h:SI x n)(hn:n<=1000000){c:zla}(ok:YHa c)(hv:c.Verb=3):kja x c=some (ktb x c):=by
 have hl:=Yka h ok hv;have h60:=h.tos.1;have hr:=h.reps;have hlen:(x.Server.To++ [(⟨c.Address,c.Notify⟩:zca)]).length<=61:=by simp;omega
 unfold kja ktb;rw[Yia _ (by omega)];simp only[Option.bind_some];rw[kla (by simp;omega)];simp only[Option.bind_some];rw[Vga _ (wrb hl (by omega)),jnb hl (by omega)];simp only[Option.bind_some];have e:(bif (!x.Server.Mailing) then some true else some x.Server.Chunked)=some (!x.Server.Mailing || x.Server.Chunked):=by cases x.Server.Mailing <;> rfl
 rw[e];simp only[Option.bind_some];cases !x.Server.Mailing || x.Server.Chunked with
 | true=>
  simp only[cond_true];rw[ZZa _ _ _ (by omega)];rfl
 | false=>
  simp only[cond_false];unfold addR;by_cases hm:x.Server.Many < ((vTa (x.Server.To++ [⟨c.Address,c.Notify⟩])).length:Int)
  .rw[if_pos hm,decide_eq_true hm];simp only[cond_true];rw[ZZa _ _ _ (by omega)];rfl
  rw[if_neg hm,decide_eq_false hm];simp only[cond_false];rw[ZZa _ _ _ (by show x.replies.length<=_;omega)];rfl
theorem rcptS_si{x:Ses}{n:Nat}(h:SI x n){c:zla}(ok:YHa c)(hv:c.Verb=3):SI (ktb x c) (n+1):=by
 have hl:=Yka h ok hv;obtain ⟨h1,h2⟩:=VOa hl;have h3:=jmb (l:=x.Server.To++ [(⟨c.Address,c.Notify⟩:zca)]) (by simp);unfold ktb;cases !x.Server.Mailing || x.Server.Chunked with
 | true=>exact qDa h _ _
 | false=>
  simp only[cond_false];split
  .exact qDa h _ _
  rename_i hm;refine qDa ?_ _ _;obtain ⟨a1,a2,a3,a4,a5,a6,a7,a8,a9,a10,a11,a12,a13⟩:=h;exact ⟨a1,a2,a3,a4,a5,⟨by show (addR x c).length<=60;omega,h2⟩,a7,a8,a9,fun e=>absurd e h3,a11,a12,a13⟩
theorem Joa{c:Int}(h:0<=c/\c<=1000000):z5a c=some (Lib.decDigits c.toNat)/\wNa c=some (Lib.decDigits c.toNat):=by
 obtain ⟨k,rfl⟩:∃k:Nat,c=(k:Int):=⟨c.toNat,by omega⟩;rw[ZUa _ (by omega),K9a _ (by omega),Int.toNat_natCast];exact ⟨rfl,rfl⟩
theorem vDa(x:Ses)(code:Int)(l:List Str)(h:x.replies.length<=1000000000):(zoa x code l).bind (fun v=>some v)=some (sayS x code l):=by rw[ZZa x code l h];rfl
theorem qPa(x:Ses)(code:Int)(l:Str)(h:x.replies.length<=1000000000):(vSa (cv x) code l).bind (fun v=>some v)=some (cv (sayS x code [l])):=by rw[yXa x code l h];rfl
theorem k1_eq(x:Ses)(h:x.replies.length<=1000000000):v8a (cv x)=some (cv (sayS x 250 [okW])):=qPa x 250 okW h
theorem kwb{x:Ses}{n:Nat}(h:SI x n)(hd:x.Server.Dots=0)(c:zla):SI ⟨{x.Server with Phase:=0,Left:=c.Size,Last:=c.Last,Ignore:=x.Server.To.isEmpty,Chunked:= !x.Server.To.isEmpty},x.replies,x.mails⟩ n:=by
 obtain ⟨a1,a2,a3,a4,a5,a6,a7,a8,a9,a10,a11,a12,a13⟩:=h;exact ⟨a1,a2,a3,a4,a5,a6,a7,a8,fun e=>absurd (show (0:Int)=2 from e) (by decide),fun e=>by
  have e:x.Server.To=[]:=e;show (!x.Server.To.isEmpty)=false;rw[e];rfl,fun _=>hd,a12,a13⟩
theorem QIa(l:List zca):((l.length:Int)==0)=l.isEmpty:=by cases l <;> simp;omega
theorem exec_eq(x:Ses){n:Nat}(h:SI x n)(hn:n<=1000000)(hp:x.Server.Phase=0)(hb:x.Server.Buffer=[]){c:zla}(ok:YHa c):kua x c=some (YJa x c)/\Vba (cv x) c=some (cv (YJa x c)):=by
 have hr:=h.reps;have hv:=ok.verb;have hname:=h.name;have hd:x.Server.Dots=0:=h.dots (by rw[hp];decide);unfold kua Vba YJa;rw[show (cv x).S=x.Server from rfl,show (cv x).Mails=x.mails from rfl,show (cv x).Replies=x.replies from rfl];by_cases h1:c.Verb=1
 .rw[if_pos h1,h1];simp only[show ((1:Int)==1)=true from rfl,cond_true,ab_eq,zwb,Option.bind_some];have hs:=Joa (c:=x.Server.Size) (by have:=h.size;omega);have hm:=Joa (c:=x.Server.Many) (by have:=h.many;omega);have l1:=jVa (n:=x.Server.Size.toNat) (by have:=h.size;omega);have l2:=jVa (n:=x.Server.Many.toNat) (by have:=h.many;omega);rw[show (abS x).Server.Size=x.Server.Size from rfl,show (abS x).Server.Many=x.Server.Many from rfl,show (cv (abS x)).S.Size=x.Server.Size from rfl,show (cv (abS x)).S.Many=x.Server.Many from rfl,hs.1,hs.2,hm.1,hm.2];simp only[Option.bind_some];rw[yTa (show ([115,105,122,101,32]:Str).length+_<=_ by simp;omega),yTa (show ([114,101,99,105,112,105,101,110,116,115,32]:Str).length+_<=_ by simp;omega)];simp only[Option.bind_some];refine ⟨vDa ⟨{(abS x).Server with Greeted:=true},x.replies,x.mails⟩ 250 _ (by show x.replies.length<=_;omega),?_⟩;rw[kla (by show x.replies.length+_<=_;simp;omega)];rfl
 rw[if_neg h1,beq_eq_false_iff_ne.2 h1];simp only[cond_false];by_cases h2:c.Verb=2
 .rw[if_pos h2,h2];simp only[show ((2:Int)==2)=true from rfl,cond_true];have e:(bif (!x.Server.Greeted) then some true else some x.Server.Mailing)=some (!x.Server.Greeted || x.Server.Mailing):=by cases x.Server.Greeted <;> rfl
  rw[e];simp only[Option.bind_some];cases !x.Server.Greeted || x.Server.Mailing with
  | true=>
   simp only[cond_true];exact ⟨vDa x 503 _ (by omega),qPa x 503 VLa (by omega)⟩
  | false=>
   simp only[cond_false];by_cases hs:x.Server.Size < c.Size
   .rw[if_pos hs,decide_eq_true hs];simp only[cond_true];exact ⟨vDa x 552 _ (by omega),qPa x 552 ksb (by omega)⟩
   rw[if_neg hs,decide_eq_false hs];simp only[cond_false];exact ⟨vDa ⟨{x.Server with Mailing:=true,From:=c.Address},x.replies,x.mails⟩ 250 _ (by show x.replies.length<=_;omega),k1_eq ⟨{x.Server with Mailing:=true,From:=c.Address},x.replies,x.mails⟩ (by show x.replies.length<=_;omega)⟩
 rw[if_neg h2,beq_eq_false_iff_ne.2 h2];simp only[cond_false];by_cases h3:c.Verb=3
 .rw[if_pos h3,h3];simp only[show ((3:Int)==3)=true from rfl,cond_true];refine ⟨by rw[rcpt_eq x h hn ok h3];rfl,?_⟩;have hl:=Yka h ok h3;have h60:=h.tos.1;have e:(bif (!x.Server.Mailing) then some true else some x.Server.Chunked)=some (!x.Server.Mailing || x.Server.Chunked):=by cases x.Server.Mailing <;> rfl
  rw[e];unfold ktb;simp only[Option.bind_some];cases !x.Server.Mailing || x.Server.Chunked with
  | true=>
   simp only[cond_true];exact qPa x 503 VLa (by omega)
  | false=>
   simp only[cond_false];rw[kla (by simp;omega)];simp only[Option.bind_some,List.nil_append];rw[kla (by simp;omega)];simp only[Option.bind_some];rw[qFb _ (by simp;omega) (fun r hr=>(hl r hr).2)];simp only[Option.bind_some];unfold addR;by_cases hm:x.Server.Many < ((vTa (x.Server.To++ [⟨c.Address,c.Notify⟩])).length:Int)
   .rw[if_pos hm,decide_eq_true hm];simp only[cond_true];exact qPa x 452 [109,97,110,121] (by omega)
   rw[if_neg hm,decide_eq_false hm];simp only[cond_false];exact k1_eq ⟨{x.Server with To:=vTa (x.Server.To++ [⟨c.Address,c.Notify⟩])},x.replies,x.mails⟩ (by show x.replies.length<=_;omega)
 rw[if_neg h3,beq_eq_false_iff_ne.2 h3];simp only[cond_false];by_cases h4:c.Verb=4
 .rw[if_pos h4,h4];simp only[show ((4:Int)==4)=true from rfl,cond_true];have e:(bif ((x.Server.To.length:Int)==0) then some true else some x.Server.Chunked)=some (x.Server.To.isEmpty || x.Server.Chunked):=by rw[QIa];cases x.Server.To.isEmpty <;> rfl
  rw[e];simp only[Option.bind_some];cases x.Server.To.isEmpty || x.Server.Chunked with
  | true=>
   simp only[cond_true];exact ⟨vDa x 503 _ (by omega),qPa x 503 VLa (by omega)⟩
  | false=>
   simp only[cond_false];refine ⟨vDa ⟨{x.Server with Phase:=1},x.replies,x.mails⟩ 354 _ (by show x.replies.length<=_;omega),?_⟩;have:=qPa ⟨{x.Server with Phase:=1},x.replies,x.mails⟩ 354 [103,111,32,111,110] (by show x.replies.length<=_;omega);rw[<-this];have e0:cv ⟨{x.Server with Phase:=1},x.replies,x.mails⟩=⟨{x.Server with Phase:=1,Dots:=0},x.replies,x.mails⟩:=by unfold cv;rw[<-hd]
   rw[e0]
 rw[if_neg h4,beq_eq_false_iff_ne.2 h4];simp only[cond_false];by_cases h5:c.Verb=5
 .rw[if_pos h5,h5];simp only[show ((5:Int)==5)=true from rfl,cond_true];rw[QIa];have e:(bif !x.Server.To.isEmpty then some (⟨⟨x.Server.Name,x.Server.Size,x.Server.Many,2,x.Server.Greeted,x.Server.Mailing,x.Server.From,x.Server.To,x.Server.Buffer,x.Server.Data,x.Server.Lost,x.Server.Dots,true,c.Size,c.Last,x.Server.To.isEmpty,x.Server.Count⟩,x.replies,x.mails⟩:zda)
   else some ⟨⟨x.Server.Name,x.Server.Size,x.Server.Many,2,x.Server.Greeted,x.Server.Mailing,x.Server.From,x.Server.To,x.Server.Buffer,x.Server.Data,x.Server.Lost,x.Server.Dots,x.Server.Chunked,c.Size,c.Last,x.Server.To.isEmpty,x.Server.Count⟩,x.replies,x.mails⟩)=
   some (cv ⟨{x.Server with Phase:=2,Left:=c.Size,Last:=c.Last,Ignore:=x.Server.To.isEmpty,Chunked:= !x.Server.To.isEmpty},x.replies,x.mails⟩):=by
   cases he:x.Server.To.isEmpty with
   | true=>
    have hc:=h.chunk (List.isEmpty_iff.1 he);simp only[Bool.not_true,cond_false];rw[hc];rfl
   | false=>rfl
  rw[e];simp only[Option.bind_some];by_cases hz:c.Size=0
  .rw[if_pos hz,hz];simp only[show ((0:Int)==0)=true from rfl,cond_true];obtain ⟨e1,e2⟩:=vwb ⟨{x.Server with Phase:=2,Left:=c.Size,Last:=c.Last,Ignore:=x.Server.To.isEmpty,Chunked:= !x.Server.To.isEmpty},x.replies,x.mails⟩ (kwb h hd c) hn;rw[hz]at e1 e2;exact ⟨(congrArg (fun o=>o.bind fun v=>some v) e1).trans rfl,(congrArg (fun o=>o.bind fun v=>some v) e2).trans rfl⟩
  rw[if_neg hz,beq_eq_false_iff_ne.2 hz];exact ⟨rfl,rfl⟩
 rw[if_neg h5,beq_eq_false_iff_ne.2 h5];simp only[cond_false];by_cases h6:c.Verb=6
 .rw[if_pos h6,h6];simp only[show ((6:Int)==6)=true from rfl,cond_true,ab_eq,zwb,Option.bind_some];exact ⟨vDa (abS x) 250 _ (by show x.replies.length<=_;omega),k1_eq (abS x) (by show x.replies.length<=_;omega)⟩
 rw[if_neg h6,beq_eq_false_iff_ne.2 h6];simp only[cond_false];by_cases h8:c.Verb=8
 .rw[if_pos h8,h8];simp only[show ((8:Int)==7)=false from rfl,show ((8:Int)==8)=true from rfl,cond_true,cond_false,zwb,Option.bind_some];refine ⟨?_,?_⟩
  .rw[ZZa x 221 _ (by omega)];rfl
  have e0:(⟨{(abS x).Server with Phase:=3},x.replies,x.mails⟩:zda)=cv ⟨{(abS x).Server with Phase:=3,Buffer:=[]},x.replies,x.mails⟩:=by
   unfold cv abS;simp only[hb]
  exact (congrArg (fun s=>(vSa s 221 [98,121,101]).bind fun v=>some v) e0).trans (qPa ⟨{(abS x).Server with Phase:=3,Buffer:=[]},x.replies,x.mails⟩ 221 [98,121,101] (by show x.replies.length<=_;omega))
 rw[if_neg h8,beq_eq_false_iff_ne.2 h8];have h7:c.Verb=7:=by omega
 rw[h7];simp only[show ((7:Int)==7)=true from rfl,cond_true,cond_false];exact ⟨vDa x 250 _ (by omega),k1_eq x (by omega)⟩
theorem Jpa{x:Ses}{n:Nat}(h:SI ⟨{x.Server with Phase:=0},x.replies,x.mails⟩ n)(hd:x.Server.Dots=0):SI (Zsa x) (n+1):=by
 have h0:SI ⟨{x.Server with Phase:=0,Last:=false,Ignore:=false},x.replies,x.mails⟩ n:=kvb (x:=⟨{x.Server with Phase:=0},x.replies,x.mails⟩) h hd;unfold Zsa;cases x.Server.Ignore with
 | true=>exact qDa h0 _ _
 | false=>
  cases x.Server.Last with
  | true=>exact vvb h0
  | false=>exact qDa h0 _ _
theorem execS_si{x:Ses}{n:Nat}(h:SI x n)(hp:x.Server.Phase=0){c:zla}(ok:YHa c):SI (YJa x c) (n+1):=by
 have hd:x.Server.Dots=0:=h.dots (by rw[hp];decide);have hv:=ok.verb;have hs:=ok.size;unfold YJa;by_cases h1:c.Verb=1
 .rw[if_pos h1];refine qDa ?_ _ _;obtain ⟨a1,a2,a3,a4,a5,a6,a7,a8,a9,a10,a11,a12,a13⟩:=kub h;exact ⟨a1,a2,a3,a4,a5,a6,a7,a8,a9,a10,a11,a12,a13⟩
 rw[if_neg h1];by_cases h2:c.Verb=2
 .rw[if_pos h2];cases !x.Server.Greeted || x.Server.Mailing with
  | true=>exact qDa h _ _
  | false=>
   simp only[cond_false];split
   .exact qDa h _ _
   refine qDa ?_ _ _;obtain ⟨a1,a2,a3,a4,a5,a6,a7,a8,a9,a10,a11,a12,a13⟩:=h;exact ⟨a1,a2,a3,a4,a5,a6,a7,a8,a9,a10,a11,a12,a13⟩
 rw[if_neg h2];by_cases h3:c.Verb=3
 .rw[if_pos h3];exact rcptS_si h ok h3
 rw[if_neg h3];by_cases h4:c.Verb=4
 .rw[if_pos h4];cases x.Server.To.isEmpty || x.Server.Chunked with
  | true=>exact qDa h _ _
  | false=>
   refine qDa ?_ _ _;obtain ⟨a1,a2,a3,a4,a5,a6,a7,a8,a9,a10,a11,a12,a13⟩:=h;exact ⟨a1,a2,a3,a4,a5,a6,a7,a8,fun e=>absurd (show (1:Int)=2 from e) (by decide),a10,fun _=>hd,a12,a13⟩
 rw[if_neg h4];by_cases h5:c.Verb=5
 .rw[if_pos h5];by_cases hz:c.Size=0
  .rw[if_pos hz];have hq:=kwb h hd c;exact Jpa (x:=⟨{x.Server with Phase:=2,Left:=c.Size,Last:=c.Last,Ignore:=x.Server.To.isEmpty,Chunked:= !x.Server.To.isEmpty},x.replies,x.mails⟩) hq hd
  rw[if_neg hz];have h' :=h.up;obtain ⟨a1,a2,a3,a4,a5,a6,a7,a8,a9,a10,a11,a12,a13⟩:=h';exact ⟨a1,a2,a3,a4,a5,a6,a7,a8,fun _=>⟨by show 1<=c.Size;omega,hs.2⟩,fun e=>by
   have e:x.Server.To=[]:=e;show (!x.Server.To.isEmpty)=false;rw[e];rfl,fun _=>hd,a12,a13⟩
 rw[if_neg h5];by_cases h6:c.Verb=6
 .rw[if_pos h6];exact qDa (kub h) _ _
 rw[if_neg h6];by_cases h8:c.Verb=8
 .rw[if_pos h8];refine qDa ?_ _ _;obtain ⟨a1,a2,a3,a4,a5,a6,a7,a8,a9,a10,a11,a12,a13⟩:=kub h;exact ⟨a1,a2,a3,a4,by show (0:Nat)<=4001;omega,a6,a7,a8,fun e=>absurd (show (3:Int)=2 from e) (by decide),a10,fun _=>hd,a12,a13⟩
 rw[if_neg h8];exact qDa h _ _
theorem Wla(l:List UInt8)(c:UInt8): [13,10].isSuffixOf (l++ [c])=(decide (2<=(l++ [c]).length) && (((l++ [c])[(l++ [c]).length - 2]?).elim false (· ==13) && c==10)):=by
 rcases List.eq_nil_or_concat l with rfl | ⟨p,y,rfl⟩
 .have h1:([13,10]:List UInt8).isSuffixOf ([]++ [c])=false:=by
   rw[Bool.eq_false_iff];intro h;have:=(List.isSuffixOf_iff_suffix.1 h).length_le;simp at this
  rw[h1];rfl
 rw[List.concat_eq_append,Bool.eq_iff_iff,List.isSuffixOf_iff_suffix];have e1:(p++ [y]++ [c]).length - 2=p.length:=by simp
 rw[e1];have e2:(p++ [y]++ [c])[p.length]? =some y:=by simp
 rw[e2];simp only[Option.elim_some,Bool.and_eq_true,beq_iff_eq,decide_eq_true_eq];constructor
 .rintro ⟨t,ht⟩;rw[show p++ [y]++ [c]=p++ [y,c] by simp]at ht;have:=(List.append_inj' ht rfl).2;simp at this;exact ⟨by simp,this.1.symm,this.2.symm⟩
 rintro ⟨_,rfl,rfl⟩;exact ⟨p,by simp⟩
theorem qOb{x:Ses}{n:Nat}(h:SI x n){b:List UInt8}(hb:b.length<=4001):SI (bufS x b) n:=by
 obtain ⟨a1,a2,a3,a4,a5,a6,a7,a8,a9,a10,a11,a12,a13⟩:=h;exact ⟨a1,a2,a3,a4,hb,a6,a7,a8,a9,a10,a11,a12,a13⟩
theorem line_eq(x:Ses){n:Nat}(h:SI x n)(hn:n<=1000000)(hp:x.Server.Phase=0)(c:UInt8):kXa x c=some (zub x c)/\K1a (cv x) c=some (cv (zub x c)):=by
 have hr:=h.reps;have hb:=h.buf;have h0:=qOb h (b:=[]) (by simp);have hlen:(x.Server.Buffer++ [c]).length=x.Server.Buffer.length+1:=by simp
 unfold kXa K1a zub;rw[show (cv x).S=x.Server from rfl,show (cv x).Mails=x.mails from rfl,show (cv x).Replies=x.replies from rfl];rw[kla (show x.Server.Buffer.length+ [c].length<=140737488355328 by simp;omega),kla (show ([]:List UInt8).length+x.Server.Buffer.length<=140737488355328 by simp;omega)];simp only[Option.bind_some,List.nil_append];rw[kla (show x.Server.Buffer.length+ [c].length<=140737488355328 by simp;omega)];simp only[Option.bind_some];unfold qsa;rw[jma _ _ (by omega)];simp only[Option.bind_some];have eR:(bif decide ((2:Int)<=((x.Server.Buffer++ [c]).length:Int)) then (idx (x.Server.Buffer++ [c]) (w64 (((x.Server.Buffer++ [c]).length:Int) - 2))).bind fun v7=>(bif ((v7.toNat:Int)==13) then (idx (x.Server.Buffer++ [c]) (w64 (((x.Server.Buffer++ [c]).length:Int) - 1))).bind fun v10=>some ((v10.toNat:Int)==10) else some false) else some false)=some ([13,10].isSuffixOf (x.Server.Buffer++ [c])):=by
  rw[Wla];by_cases h2:2<=(x.Server.Buffer++ [c]).length
  .rw[decide_eq_true (show (2:Int)<=((x.Server.Buffer++ [c]).length:Int) by omega),decide_eq_true h2];rw[show (((x.Server.Buffer++ [c]).length:Int) - 2)=(((x.Server.Buffer++ [c]).length - 2:Nat):Int) by omega,Zxa _ (by omega),show (((x.Server.Buffer++ [c]).length:Int) - 1)=((x.Server.Buffer.length:Nat):Int) by omega,Zxa _ (by omega),qub x.Server.Buffer c [],wCa,List.getElem?_eq_getElem (by omega)];simp only[cond_true,Option.bind_some,Option.elim_some,Bool.true_and];rw[qJa _ 13 (by decide),qJa _ 10 (by decide)];cases (x.Server.Buffer++ [c])[(x.Server.Buffer++ [c]).length - 2]==13 <;> rfl
  rw[decide_eq_false (show ¬(2:Int)<=((x.Server.Buffer++ [c]).length:Int) by omega),decide_eq_false h2];rfl
 rw[eR];simp only[Option.bind_some];cases hs: [13,10].isSuffixOf (x.Server.Buffer++ [c]) with
 | true=>
  have hl2:=(List.isSuffixOf_iff_suffix.1 hs).length_le;simp only[List.length_cons,List.length_nil]at hl2;have ecut:w64 (((x.Server.Buffer++ [c]).length:Int) - (([13,10]:List UInt8).length:Int))=(((x.Server.Buffer++ [c]).length - 2:Nat):Int):=by
   rw[show (((x.Server.Buffer++ [c]).length:Int) - (([13,10]:List UInt8).length:Int))=(((x.Server.Buffer++ [c]).length - 2:Nat):Int) by simp only[List.length_cons,List.length_nil];omega,Zxa _ (by omega)]
  have ecut2:w64 (((x.Server.Buffer++ [c]).length:Int) - 2)=(((x.Server.Buffer++ [c]).length - 2:Nat):Int):=by
   rw[show (((x.Server.Buffer++ [c]).length:Int) - 2)=(((x.Server.Buffer++ [c]).length - 2:Nat):Int) by omega,Zxa _ (by omega)]
  simp only[Bool.not_true,cond_false,cond_true,if_true];rw[ecut,ecut2,Zoa (by omega)];simp only[Option.bind_some,Bool.not_true,cond_false];rw[V0a _ (by simp;omega),YIa _ (by simp;omega)];simp only[Option.bind_some];generalize hR:ZYa ((x.Server.Buffer++ [c]).take ((x.Server.Buffer++ [c]).length - 2))=r;by_cases h18:r.2.Code=18
  .rw[if_pos h18,h18];simp only[show ((18:Int)==0)=false from rfl,show ((18:Int)==18)=true from rfl,cond_true,cond_false];exact ⟨vDa (bufS x []) 500 _ (by show x.replies.length<=_;omega),qPa (bufS x []) 500 QHa (by show x.replies.length<=_;omega)⟩
  rw[if_neg h18];by_cases hz:r.2.Code=0
  .have ok:YHa r.1:=by rw[<-hR]at hz ⊢;exact zxb hz
   obtain ⟨e1,e2⟩:=exec_eq (bufS x []) h0 hn hp rfl ok;rw[if_pos hz,hz];simp only[show ((0:Int)==0)=true from rfl,show ((0:Int)==18)=false from rfl,show ((0:Int) !=0)=false from rfl,cond_true,cond_false];exact ⟨(congrArg (fun o=>o.bind fun v=>some v) e1).trans rfl,(congrArg (fun o=>o.bind fun v=>some v) e2).trans rfl⟩
  rw[if_neg hz,beq_eq_false_iff_ne.2 hz,beq_eq_false_iff_ne.2 h18,bne_iff_ne.2 hz];simp only[cond_true,cond_false];exact ⟨vDa (bufS x []) 501 _ (by show x.replies.length<=_;omega),qPa (bufS x []) 501 jjb (by show x.replies.length<=_;omega)⟩
 | false=>
  simp only[Bool.not_false,cond_true,cond_false,Bool.false_eq_true,if_false,Option.bind_some];by_cases h4:(x.Server.Buffer++ [c]).length=4002
  .rw[if_pos h4,h4];simp only[show (((4002:Nat):Int)==4002)=true from rfl,cond_true];refine ⟨?_,?_⟩
   .exact (congrArg (fun o=>(o.bind fun (v8:zea)=>(kJa v8).bind fun v10=>some v10).bind fun j=>some j) (ZZa (bufS x (x.Server.Buffer++ [c])) 500 [QHa] (by show x.replies.length<=_;omega))).trans rfl
   exact (congrArg (fun o=>o.bind fun v=>some v) (yXa ⟨{(abS x).Server with Phase:=3,Buffer:=[]},x.replies,x.mails⟩ 500 QHa (by show x.replies.length<=_;omega))).trans rfl
  rw[if_neg h4,beq_eq_false_iff_ne.2 (show ((x.Server.Buffer++ [c]).length:Int)≠4002 by omega)];exact ⟨rfl,rfl⟩
theorem lineS_si{x:Ses}{n:Nat}(h:SI x n)(hp:x.Server.Phase=0)(c:UInt8):SI (zub x c) (n+1):=by
 have hb:=h.buf;have h0:=qOb h (b:=[]) (by simp);have hd:x.Server.Dots=0:=h.dots (by rw[hp];decide);have hlen:(x.Server.Buffer++ [c]).length=x.Server.Buffer.length+1:=by simp
 unfold zub;split
 .generalize hR:ZYa ((x.Server.Buffer++ [c]).take ((x.Server.Buffer++ [c]).length - 2))=r;dsimp only;split
  .exact qDa h0 _ _
  split
  .rename_i hz;exact execS_si h0 hp (by rw[<-hR]at hz ⊢;exact zxb hz)
  exact qDa h0 _ _
 split
 .refine qDa ?_ _ _;obtain ⟨a1,a2,a3,a4,a5,a6,a7,a8,a9,a10,a11,a12,a13⟩:=kub h;exact ⟨a1,a2,a3,a4,by show (0:Nat)<=4001;omega,a6,a7,a8,fun e=>absurd (show (3:Int)=2 from e) (by decide),a10,fun _=>hd,a12,a13⟩
 rename_i h4;exact (qOb h (by omega)).up
theorem qta(x:Ses)(c:UInt8):(qaa x c).Server.Dots=x.Server.Dots/\(qaa x c).Server.Phase=x.Server.Phase:=by unfold qaa;split <;> exact ⟨rfl,rfl⟩
theorem Wma{x:Ses}{n:Nat}(h:SI x n)(hp:x.Server.Phase=1)(d:Int):SI (YKa x d) n:=by
 obtain ⟨a1,a2,a3,a4,a5,a6,a7,a8,a9,a10,a11,a12,a13⟩:=h;exact ⟨a1,a2,a3,a4,a5,a6,a7,a8,a9,a10,fun e=>absurd hp e,a12,a13⟩
theorem Yla(p q:Prop)[Decidable p][Decidable q]:(bif decide p then some (decide q) else some false)=some (decide (p/\q)):=by
 by_cases hp:p <;> by_cases hq:q <;> simp[hp,hq]
theorem deq(a b:Int):(a==b)=decide (a=b):=by rw[Bool.eq_iff_iff];simp
theorem job(x:Ses){n:Nat}(h:SI x n)(c:UInt8):z9a c x=some (YKa (qaa x c) (if c=13 then 4 else if c=10/\x.Server.Dots=4 then 0 else 3)):=by
 unfold z9a;rw[jkb x c h];simp only[Option.bind_some];rw[(qta x c).1,qJa c 13 (by decide),qJa c 10 (by decide),jAa,jAa,deq,Yla];simp only[Option.bind_some];by_cases h13:c=13
 .rw[if_pos h13,decide_eq_true h13];rfl
 rw[if_neg h13,decide_eq_false h13];by_cases h10:c=10/\x.Server.Dots=4
 .rw[if_pos h10,decide_eq_true h10];rfl
 rw[if_neg h10,decide_eq_false h10];rfl
theorem zyb{x:Ses}{n:Nat}(h:SI x n):SI ⟨{x.Server with Phase:=0,Dots:=0},x.replies,x.mails⟩ n:=by
 obtain ⟨a1,a2,a3,a4,a5,a6,a7,a8,a9,a10,a11,a12,a13⟩:=h;exact ⟨a1,a2,a3,a4,a5,a6,a7,a8,fun e=>absurd (show (0:Int)=2 from e) (by decide),a10,fun _=>rfl,a12,a13⟩
theorem data_eq(x:Ses){n:Nat}(h:SI x n)(hn:n<=1000000)(c:UInt8):kYa x c=some (zvb x c)/\K3a (cv x) c=some (cv (zvb x c)):=by
 unfold kYa K3a zvb;rw[show (cv x).S=x.Server from rfl,show (cv x).Mails=x.mails from rfl,show (cv x).Replies=x.replies from rfl];rw[qJa c 46 (by decide),qJa c 13 (by decide),qJa c 10 (by decide),jAa,jAa,jAa,deq,deq,deq,deq,Yla,Yla,Yla,Yla];simp only[Option.bind_some];by_cases h0:x.Server.Dots=0/\c=46
 .rw[if_pos h0,decide_eq_true h0];exact ⟨rfl,rfl⟩
 rw[if_neg h0,decide_eq_false h0];simp only[cond_false];by_cases h1:x.Server.Dots=1/\c=13
 .rw[if_pos h1,decide_eq_true h1];exact ⟨rfl,rfl⟩
 rw[if_neg h1,decide_eq_false h1];simp only[cond_false];by_cases h2:x.Server.Dots=2/\c=10
 .rw[if_pos h2,decide_eq_true h2];simp only[cond_true];exact ⟨(congrArg (fun o=>o.bind fun v=>some v) (jlb _ (zyb h) hn)).trans rfl,(congrArg (fun o=>o.bind fun v=>some v) (Jna _ (zyb h) hn)).trans rfl⟩
 rw[if_neg h2,decide_eq_false h2];simp only[cond_false];have key:∀y:Ses,SI y n->y.Server.Dots=x.Server.Dots->((K2a (cv y) c).bind fun v16=>((bif decide (c=13) then some (cv (YKa ⟨v16.S,v16.Replies,v16.Mails⟩ 4)) else some (cv (YKa ⟨v16.S,v16.Replies,v16.Mails⟩ 3))):Option zda).bind fun j18=>((bif decide (x.Server.Dots=4/\c=10) then some (cv (YKa ⟨j18.S,j18.Replies,j18.Mails⟩ 0)) else some j18):Option zda).bind fun j20=>some j20)=some (cv (YKa (qaa y c) (if c=13 then 4 else if c=10/\x.Server.Dots=4 then 0 else 3))):=by
  intro y hy hd;rw[qNb y c hy];simp only[Option.bind_some];by_cases h13:c=13
  .rw[if_pos h13,decide_eq_true h13];simp only[cond_true,Option.bind_some];rw[decide_eq_false (show ¬(x.Server.Dots=4/\c=10) by rw[h13];simp)];rfl
  rw[if_neg h13,decide_eq_false h13];simp only[cond_false,Option.bind_some];by_cases h10:x.Server.Dots=4/\c=10
  .rw[decide_eq_true h10,if_pos ⟨h10.2,h10.1⟩];rfl
  rw[decide_eq_false h10,if_neg (fun e=>h10 ⟨e.2,e.1⟩)];rfl
 by_cases hd2:x.Server.Dots=2
 .rw[if_pos hd2,decide_eq_true hd2];simp only[cond_true];have hk:=joa h 13;have hkd:=(qta x 13).1;rw[jkb x 13 h,qNb x 13 h];simp only[Option.bind_some];refine ⟨?_,key (qaa x 13) hk hkd⟩;rw[job _ hk c,hkd]
 rw[if_neg hd2,decide_eq_false hd2];simp only[cond_false,Option.bind_some];refine ⟨?_,key x h rfl⟩;rw[job x h c]
theorem dataS_si{x:Ses}{n:Nat}(h:SI x n)(hp:x.Server.Phase=1)(c:UInt8):SI (zvb x c) (n+1):=by
 unfold zvb;split
 .exact (Wma h hp _).up
 split
 .exact (Wma h hp _).up
 split
 .exact vvb (zyb h)
 split
 .exact (Wma (joa (joa h 13) c) (by rw[(qta _ _).2,(qta _ _).2];exact hp) _).up
 exact (Wma (joa h c) (by rw[(qta _ _).2];exact hp) _).up
def qPb(x:Ses):Ses:=⟨{x.Server with Left:=x.Server.Left - 1},x.replies,x.mails⟩
theorem vxb{x:Ses}{n:Nat}(h:SI x n)(hp:x.Server.Phase=2):SI ⟨{(qPb x).Server with Phase:=0},x.replies,x.mails⟩ n/\((qPb x).Server.Left≠0->SI (qPb x) n):=by
 have hl:=h.left hp;have hd:x.Server.Dots=0:=h.dots (by rw[hp];decide);obtain ⟨a1,a2,a3,a4,a5,a6,a7,a8,a9,a10,a11,a12,a13⟩:=h;refine ⟨⟨a1,a2,a3,a4,a5,a6,a7,a8,fun e=>absurd (show (0:Int)=2 from e) (by decide),a10,fun _=>hd,a12,a13⟩,fun hz=>⟨a1,a2,a3,a4,a5,a6,a7,a8,fun _=>?_,a10,fun _=>hd,a12,a13⟩⟩;have hz:x.Server.Left - 1≠0:=hz;exact ⟨by show 1<=x.Server.Left - 1;omega,by show x.Server.Left - 1<=_;omega⟩
theorem zzb{x:Ses}{n:Nat}(h:SI x n)(c:UInt8):SI (Voa x c) (n+1):=by
 unfold Voa;split
 .rename_i hp;exact lineS_si h hp c
 split
 .rename_i hp;exact dataS_si h hp c
 split
 .rename_i hp;have hy:SI (bif x.Server.Ignore then x else qaa x c) n/\(bif x.Server.Ignore then x else qaa x c).Server.Phase=2:=by
   cases x.Server.Ignore with
   | true=>exact ⟨h,hp⟩
   | false=>exact ⟨joa h c,by rw[show (bif false then x else qaa x c)=qaa x c from rfl,(qta x c).2];exact hp⟩
  generalize (bif x.Server.Ignore then x else qaa x c)=y at hy;obtain ⟨hy,hyp⟩:=hy;obtain ⟨h1,h2⟩:=vxb hy hyp;show SI (if (qPb y).Server.Left=0 then Zsa (qPb y) else qPb y) (n+1);split
  .exact Jpa h1 (hy.dots (by rw[hyp];decide))
  rename_i hz;exact (h2 hz).up
 exact h.up
theorem jpb(a1:List UInt8)(ha:a1.length<=1000000)(i:Nat)(c:UInt8)(x:Ses)(hc:a1[i]? =some c)(h:SI x i):qda a1 ((i:Int),x)=some (.cont (((i+1:Nat):Int),Voa x c))/\w8a a1 ((i:Int),cv x)=some (.cont (((i+1:Nat):Int),cv (Voa x c))):=by
 have hi:=zLa hc;unfold qda w8a Voa;dsimp only;rw[koa hc,zCa hc,show (cv x).S=x.Server from rfl];simp only[cond_true,Option.bind_some];rw[sc i (by omega)];by_cases h0:x.Server.Phase=0
 .obtain ⟨e1,e2⟩:=line_eq x h (by omega) h0 c;rw[if_pos h0,h0,e1,e2];exact ⟨rfl,rfl⟩
 rw[if_neg h0,beq_eq_false_iff_ne.2 h0];simp only[cond_false];by_cases h1:x.Server.Phase=1
 .obtain ⟨e1,e2⟩:=data_eq x h (by omega) c;rw[if_pos h1,h1,e1,e2];exact ⟨rfl,rfl⟩
 rw[if_neg h1,beq_eq_false_iff_ne.2 h1];simp only[cond_false];by_cases h2:x.Server.Phase=2
 .rw[if_pos h2,h2];simp only[show ((2:Int)==2)=true from rfl,cond_true];have e1:(bif !x.Server.Ignore then (z6a x c).bind fun v36=>some v36 else some x)=some (bif x.Server.Ignore then x else qaa x c):=by
   rw[jkb x c h];cases x.Server.Ignore <;> rfl
  have e2:(bif !x.Server.Ignore then (K2a (cv x) c).bind fun v23=>some v23 else some (cv x))=some (cv (bif x.Server.Ignore then x else qaa x c)):=by
   rw[qNb x c h];cases x.Server.Ignore <;> rfl
  rw[e1,e2];simp only[Option.bind_some];have hy:SI (bif x.Server.Ignore then x else qaa x c) i/\(bif x.Server.Ignore then x else qaa x c).Server.Phase=2:=by
   cases x.Server.Ignore with
   | true=>exact ⟨h,h2⟩
   | false=>exact ⟨joa h c,by rw[show (bif false then x else qaa x c)=qaa x c from rfl,(qta x c).2];exact h2⟩
  generalize (bif x.Server.Ignore then x else qaa x c)=y at hy;obtain ⟨hy,hyp⟩:=hy;obtain ⟨q1,q2⟩:=vxb hy hyp;have hl:=hy.left hyp;rw[show (cv y).S=y.Server from rfl,show (cv y).Mails=y.mails from rfl,show (cv y).Replies=y.replies from rfl,qja (n:=y.Server.Left - 1) (by omega) (by omega)];by_cases hz:y.Server.Left - 1=0
  .obtain ⟨c1,c2⟩:=vwb (qPb y) q1 (by omega);rw[if_pos hz];have hb:(y.Server.Left - 1==0)=true:=by rw[hz];rfl
   rw[hb];exact ⟨(congrArg (fun (o:Option zea)=>(o.bind fun v39=>some v39).bind fun (j24:zea)=>(some (Step.cont (((i+1:Nat):Int),j24)):Option (Step (Int × zea) zea))) c1).trans rfl,(congrArg (fun (o:Option zda)=>(o.bind fun v39=>some v39).bind fun (j24:zda)=>(some (Step.cont (((i+1:Nat):Int),j24)):Option (Step (Int × zda) zda))) c2).trans rfl⟩
  rw[if_neg hz,beq_eq_false_iff_ne.2 hz];exact ⟨rfl,rfl⟩
 rw[if_neg h2,beq_eq_false_iff_ne.2 h2];exact ⟨rfl,rfl⟩
def V2a(x:Ses)(b:List UInt8):Ses:=b.foldl Voa x
theorem kxb(a1:List UInt8)(ha:a1.length<=1000000)(x:Ses)(h:SI x 0):iter (qda a1) ((0,x))=some (V2a x a1)/\iter (w8a a1) ((0,cv x))=some (cv (V2a x a1))/\SI (V2a x a1) a1.length:=by
 obtain ⟨h1,h2⟩:=yUa a1 (fun i (s:Ses)=>(i,s)) Voa id (fun i s=>SI s i) (body:=qda a1) (fun s _=>by unfold qda;rw[zMa];rfl) (fun i c s hc hs=>⟨(jpb a1 ha i c s hc hs).1,zzb hs c⟩) x h;obtain ⟨h3,_⟩:=yUa a1 (fun i (s:Ses)=>(i,cv s)) Voa cv (fun i s=>SI s i) (body:=w8a a1) (fun s _=>by unfold w8a;rw[zMa];rfl) (fun i c s hc hs=>⟨(jpb a1 ha i c s hc hs).2,zzb hs c⟩) x h;exact ⟨h1,h3,h2⟩
def fl:List UInt8->List UInt8->List Str × List UInt8
 | cur,[]=>([],cur)
 | cur,[c]=>([],cur++ [c])
 | cur,c::d::r=>if c=13/\d=10 then (cur::(fl [] r).1,(fl [] r).2) else fl (cur++ [c]) (d::r)
def Z0a(name:Str)(size many:Int):zra:=if v9a name=false∨40 < name.length then ⟨10, -20⟩ else if size < 1∨12000 < size then ⟨3, -21⟩ else if many < 1∨60 < many then ⟨3, -22⟩ else ⟨0,0⟩
theorem vyb(p q:Prop)[Decidable p][Decidable q]:(bif decide p then some true else some (decide q))=some (decide (p∨q)):=by
 by_cases hp:p <;> by_cases hq:q <;> simp[hp,hq]
theorem jqb(b:Bool):(!b)=decide (b=false):=by cases b <;> rfl
theorem len40(s:Str):decide ((40:Int) < (s.length:Int))=decide (40 < s.length):=by rw[Bool.eq_iff_iff];simp;omega
theorem jrb(name:Str)(size many:Int)(h:name.length<=1048576):kTa name size many=some (Z0a name size many):=by
 unfold kTa Z0a;rw[Zfa _ h];simp only[Option.bind_some];rw[jqb,len40,vyb,vyb,vyb];simp only[Option.bind_some,zWa,kAa];by_cases h1:v9a name=false∨40 < name.length
 .rw[if_pos h1,decide_eq_true h1];rfl
 rw[if_neg h1,decide_eq_false h1];by_cases h2:size < 1∨12000 < size
 .rw[if_pos h2,decide_eq_true h2];rfl
 rw[if_neg h2,decide_eq_false h2];by_cases h3:many < 1∨60 < many
 .rw[if_pos h3,decide_eq_true h3];rfl
 rw[if_neg h3,decide_eq_false h3];rfl
theorem in_not(a b c:Int):(!(decide (b<=a) && decide (a<=c)))=decide (a < b∨c < a):=by
 rw[Bool.eq_iff_iff];simp only[Bool.not_eq_true',Bool.and_eq_false_iff,decide_eq_false_iff_not,decide_eq_true_eq];omega
theorem jsb(s:zha)(h:s.Name.length<=1048576):jxa s=some (Z0a s.Name s.Size s.Many):=by
 unfold jxa Z0a;rw[WQa _ h];simp only[Option.bind_some];rw[jqb,len40,vyb];simp only[Option.bind_some,vMa,K5a,in_not];by_cases h1:v9a s.Name=false∨40 < s.Name.length
 .rw[if_pos h1,decide_eq_true h1];rfl
 rw[if_neg h1,decide_eq_false h1];by_cases h2:s.Size < 1∨12000 < s.Size
 .rw[if_pos h2,decide_eq_true h2];rfl
 rw[if_neg h2,decide_eq_false h2];by_cases h3:s.Many < 1∨60 < s.Many
 .rw[if_pos h3,decide_eq_true h3];rfl
 rw[if_neg h3,decide_eq_false h3];rfl
theorem jtb(a b c:Bool):(bif a then some b else some c)=some (bif a then b else c):=by cases a <;> rfl
theorem jub(a b:Bool):(bif a then b else false)=(a && b):=by cases a <;> rfl
theorem cnd_or(a b:Bool):(bif a then true else b)=(a || b):=by cases a <;> rfl
theorem vzb(a b:Bool):(bif a then false else b)=(!a && b):=by cases a <;> rfl
theorem Jqa(a b c:Int):kQa a b c=some (decide (b<=a) && decide (a<=c)):=by
 unfold kQa;cases decide (b<=a) <;> rfl
def Vpa(b:List UInt8):Bool:=decide (Lib.index b [13,10]≠ -1)
theorem qQb(b:List UInt8)(h:b.length<=1048576):vBa b [13,10]=some (Vpa b):=by
 unfold vBa j6a Vpa;rw[if_pos ⟨by omega,rfl⟩];simp only[Option.bind_some,Option.some.injEq];rw[Bool.eq_iff_iff];simp
def okB(s:zha):Bool:=
 !((s.From !=([]:Str) && !k3a s.From) || decide (s.Many < (s.To.length:Int)) || (recF s.To).Code !=0) &&
 !((!s.Greeted && s.Mailing) || (!s.Mailing && (s.From !=([]:Str) || !s.To.isEmpty)) || (s.Chunked && s.To.isEmpty)) &&
 !(decide (s.Size < (s.Data.length:Int)) || decide (s.Lost < 0∨1099511627776 < s.Lost) || decide (s.Count < 0∨1000000 < s.Count)) &&
 !((decide (0 < (s.Data.length:Int)) || decide (0 < s.Lost)) && (!s.Chunked && s.Phase !=1)) &&
 (
  bif s.Phase==0 then decide ((s.Buffer.length:Int) < 4002) && (!Vpa s.Buffer && (s.Dots==0 && (s.Left==0 && (!s.Last && !s.Ignore))))
  else bif s.Phase==1 then !s.To.isEmpty && (!s.Chunked && (s.Buffer.isEmpty && (decide (0<=s.Dots) && decide (s.Dots<=4) && (s.Left==0 && (!s.Last && !s.Ignore)))))
  else bif s.Phase==2 then (s.Ignore==s.To.isEmpty) && ((s.Ignore== !s.Chunked) && (s.Buffer.isEmpty && (s.Dots==0 && (decide (1<=s.Left) && decide (s.Left<=1000000)))))
  else bif s.Phase==3 then !s.Mailing && (s.Buffer.isEmpty && (s.Dots==0 && (s.Left==0 && (!s.Last && !s.Ignore)))) else false)
structure Jra (s:zha):Prop where
 frm:s.From.length<=1048576
 tos:WRa s.To
 buf:s.Buffer.length<=1048576
 data:s.Data.length<=1048576
 name:s.Name.length<=1048576
theorem jvb(l:List zca):decide ((0:Int) < (l.length:Int))= !l.isEmpty:=by cases l <;> simp
theorem vAb(l:List UInt8):decide ((0:Int) < (l.length:Int))= !l.isEmpty:=by cases l <;> simp
theorem Jsa(l:List UInt8):((l.length:Int)==0)=l.isEmpty:=by cases l <;> simp;omega
theorem phase_eq(s:zha)(h:Jra s):w7a s=some (bif s.Phase==0 then decide ((s.Buffer.length:Int) < 4002) && (!Vpa s.Buffer && (s.Dots==0 && (s.Left==0 && (!s.Last && !s.Ignore))))
 else bif s.Phase==1 then !s.To.isEmpty && (!s.Chunked && (s.Buffer.isEmpty && (decide (0<=s.Dots) && decide (s.Dots<=4) && (s.Left==0 && (!s.Last && !s.Ignore)))))
 else bif s.Phase==2 then (s.Ignore==s.To.isEmpty) && ((s.Ignore== !s.Chunked) && (s.Buffer.isEmpty && (s.Dots==0 && (decide (1<=s.Left) && decide (s.Left<=1000000)))))
 else bif s.Phase==3 then !s.Mailing && (s.Buffer.isEmpty && (s.Dots==0 && (s.Left==0 && (!s.Last && !s.Ignore)))) else false):=by
 unfold w7a;rw[qQb _ h.buf];simp only[Option.bind_some,Jqa,jvb,QIa,Jsa,jtb,jub,cnd_or,vzb]
theorem jwb(s:zha)(h:Jra s):v7a s=some (okB s):=by
 have h1:=h.frm;unfold v7a okB;rw[kZa _ (by omega),wja _ h.tos,phase_eq s h];simp only[Option.bind_some,Jqa,zQa,jtb,jub,cnd_or,vzb,jvb,QIa,Jsa,vAb,in_not,Option.some.injEq];cases s.From !=([]:Str) <;> cases k3a s.From <;> cases s.Greeted <;> cases s.Mailing <;> cases s.Chunked <;> cases s.To.isEmpty <;> cases s.Data.isEmpty <;> simp[Bool.and_assoc]
theorem vBb{l:List zca}(h:(recF l).Code=0):(∀r∈l,k3a r.Address=true/\k4a r.Notify=true)/\(l.map (·.Address)).Nodup:=by
 have hz:zya (recQ l) 0 l=none:=by
  unfold recF at h;cases hf:zya (recQ l) 0 l with
  | none=>rfl
  | some f=>
   exfalso;rw[hf]at h;obtain ⟨i,x,hx,hq⟩:=K4a hf;unfold recQ at hq;split at hq
   .cases hq;simp at h
   split at hq
   .cases hq;simp at h
   split at hq
   .cases hq;simp at h
   cases hq
 rw[vLa]at hz;have key:∀(i:Nat) r,l[i]? =some r->k3a r.Address=true/\k4a r.Notify=true/\(l.take i).any (fun x=>x.Address==r.Address)=false:=by
  intro i r hr;have:=hz i r hr;rw[Nat.zero_add]at this;unfold recQ at this;cases h1:k3a r.Address with
  | false=>rw[h1]at this;simp at this
  | true=>
   cases h2:k4a r.Notify with
   | false=>rw[h1,h2]at this;simp at this
   | true=>
    cases h3:(l.take i).any (fun x=>x.Address==r.Address) with
    | true=>rw[h1,h2,h3]at this;simp at this
    | false=>exact ⟨rfl,rfl,rfl⟩
 refine ⟨fun r hr=>?_,?_⟩
 .obtain ⟨i,hi⟩:=List.getElem?_of_mem hr;exact ⟨(key i r hi).1,(key i r hi).2.1⟩
 rw[List.Nodup,List.pairwise_iff_getElem];intro i j hi hj hij;simp only[List.length_map]at hi hj;simp only[List.getElem_map];have h3:=(key j l[j] (List.getElem?_eq_getElem hj)).2.2;rw[List.any_eq_false]at h3;have:=h3 l[i] (List.mem_of_getElem? (i:=i) (by rw[List.getElem?_take_of_lt hij];exact List.getElem?_eq_getElem hi));simpa using this
theorem recF_of{l:List zca}(h:∀r∈l,k3a r.Address=true/\k4a r.Notify=true)(hnd:(l.map (·.Address)).Nodup):recF l=⟨0,0⟩:=by
 unfold recF;have:zya (recQ l) 0 l=none:=by
  rw[vLa];intro i r hr;obtain ⟨ha,hn⟩:=h r (List.mem_of_getElem? hr);have hu:(l.take (0+i)).any (fun x=>x.Address==r.Address)=false:=by
   rw[Nat.zero_add,List.any_eq_false];intro y hy;obtain ⟨j,hj⟩:=List.getElem?_of_mem hy;have hji:j < i:=by have:=(List.getElem?_eq_some_iff.1 hj).1;simp at this;omega
   rw[List.getElem?_take_of_lt hji]at hj;intro hc;have hc:y.Address=r.Address:=by simpa using hc
   have hlt:=zLa hr;have hltj:=zLa hj;rw[List.Nodup,List.pairwise_iff_getElem]at hnd;refine hnd j i (by simpa using hltj) (by simpa using hlt) hji ?_;simp only[List.getElem_map];rw[(List.getElem?_eq_some_iff.1 hj).2,(List.getElem?_eq_some_iff.1 hr).2,hc]
  unfold recQ;rw[ha,hn,hu];rfl
 rw[this];rfl
def wsb:zha:=⟨[],0,0,0,false,false,[],[],[],[],0,0,false,0,false,false,0⟩
def srvF(s:zha):zra:=if (Z0a s.Name s.Size s.Many).Code≠0 then Z0a s.Name s.Size s.Many else if okB s=false then ⟨5, -23⟩ else ⟨0,0⟩
def YLa(s:zha)(b:List UInt8):zha × List zna × List zwa × zra:=
 if (srvF s).Code≠0 then (wsb,[],[],srvF s) else if 40000 < b.length then (wsb,[],[],⟨1, -1⟩) else ((V2a ⟨s,[],[]⟩ b).Server,(V2a ⟨s,[],[]⟩ b).replies,(V2a ⟨s,[],[]⟩ b).mails,⟨0,0⟩)
theorem kyb{n:Str}{a b:Int}(h:(Z0a n a b).Code=0):Z0a n a b=⟨0,0⟩/\n.length<=40/\v9a n=true/\(1<=a/\a<=12000)/\(1<=b/\b<=60):=by
 unfold Z0a at h ⊢;by_cases h1:v9a n=false∨40 < n.length
 .rw[if_pos h1]at h;exact absurd h (by decide)
 rw[if_neg h1]at h ⊢;by_cases h2:a < 1∨12000 < a
 .rw[if_pos h2]at h;exact absurd h (by decide)
 rw[if_neg h2]at h ⊢;by_cases h3:b < 1∨60 < b
 .rw[if_pos h3]at h;exact absurd h (by decide)
 rw[if_neg h3];refine ⟨rfl,by omega,?_,by omega,by omega⟩;cases hn:v9a n with
 | true=>rfl
 | false=>exact absurd (.inl hn) h1
theorem vCb{s:zha}(h:(srvF s).Code=0):(Z0a s.Name s.Size s.Many).Code=0/\okB s=true/\srvF s=⟨0,0⟩:=by
 unfold srvF at h ⊢;by_cases h1:(Z0a s.Name s.Size s.Many).Code≠0
 .rw[if_pos h1]at h;exact absurd h h1
 rw[if_neg h1]at h ⊢;by_cases h2:okB s=false
 .rw[if_pos h2]at h;exact absurd h (by decide)
 rw[if_neg h2];exact ⟨Decidable.not_not.1 h1,by simpa using h2,rfl⟩
theorem vDb{s:zha}(h:(srvF s).Code=0):SI ⟨s,[],[]⟩ 0:=by
 obtain ⟨hc,ho,_⟩:=vCb h;obtain ⟨_,c1,c2,c3,c4⟩:=kyb hc;unfold okB at ho;simp only[Bool.and_eq_true]at ho;obtain ⟨⟨⟨⟨o1,o2⟩,o3⟩,o4⟩,o5⟩:=ho;simp only[Bool.not_eq_true',Bool.or_eq_false_iff,decide_eq_false_iff_not]at o1 o2 o3;obtain ⟨⟨f1,f2⟩,f3⟩:=o1;obtain ⟨⟨g1,g2⟩,g3⟩:=o2;obtain ⟨⟨d1,d2⟩,d3⟩:=o3;have hrec:(recF s.To).Code=0:=by simpa[bne]using f3
 refine ⟨c3,c4,c1,by show (s.Data.length:Int)<=s.Size;omega,?_,⟨by show s.To.length<=60;omega,(vBb hrec).1⟩,by show 0<=s.Lost/\s.Lost<=_;omega,by show 0<=s.Count/\s.Count<=_;omega,?_,?_,?_,Nat.le_refl _,Nat.le_refl _⟩
 .show s.Buffer.length<=4001;by_cases p0:s.Phase=0
  .rw[p0]at o5;simp at o5;omega
  have:s.Buffer.isEmpty=true:=by
   rw[beq_eq_false_iff_ne.2 p0]at o5;by_cases p1:s.Phase=1
   .rw[p1]at o5;simp at o5;simp[o5]
   by_cases p2:s.Phase=2
   .rw[p2]at o5;simp at o5;simp[o5]
   by_cases p3:s.Phase=3
   .rw[p3]at o5;simp at o5;simp[o5]
   rw[beq_eq_false_iff_ne.2 p1,beq_eq_false_iff_ne.2 p2,beq_eq_false_iff_ne.2 p3]at o5;cases o5
  rw[List.isEmpty_iff.1 this];simp
 .intro p2;have p2:s.Phase=2:=p2;rw[p2]at o5;simp at o5;show 1<=s.Left/\s.Left<=1000000;exact ⟨o5.2.2.2.2.1,o5.2.2.2.2.2⟩
 .intro e;have e:s.To=[]:=e;show s.Chunked=false;rw[e]at g3;simpa using g3
 intro p1;have p1:s.Phase≠1:=p1;show s.Dots=0;by_cases p0:s.Phase=0
 .rw[p0]at o5;simp at o5;exact o5.2.2.1
 rw[beq_eq_false_iff_ne.2 p0,beq_eq_false_iff_ne.2 p1]at o5;by_cases p2:s.Phase=2
 .rw[p2]at o5;simp at o5;exact o5.2.2.2.1
 by_cases p3:s.Phase=3
 .rw[p3]at o5;simp at o5;exact o5.2.2.1
 rw[beq_eq_false_iff_ne.2 p2,beq_eq_false_iff_ne.2 p3]at o5;cases o5
theorem jxb(s:zha)(b:List UInt8)(h:Jra s)(hb:b.length<=1048576):wBa s b=some (YLa s b):=by
 unfold wBa YLa;rw[jrb _ _ _ h.name];simp only[Option.bind_some,zQa];by_cases hc:(Z0a s.Name s.Size s.Many).Code=0
 .rw[hc,jwb s h];simp only[show ((0:Int) !=0)=false from rfl,cond_false,Option.bind_some];cases ho:okB s with
  | false=>
   have e:srvF s=⟨5, -23⟩:=by unfold srvF;rw[if_neg (by simp[hc]),if_pos ho]
   rw[e,if_pos (by decide)];rfl
  | true=>
   have e:srvF s=⟨0,0⟩:=by unfold srvF;rw[if_neg (by simp[hc]),if_neg (by simp[ho])]
   rw[e,if_neg (by decide)];simp only[Bool.not_true,cond_false];by_cases h4:40000 < b.length
   .rw[if_pos h4,decide_eq_true (by omega)];rfl
   rw[if_neg h4,decide_eq_false (by omega)];simp only[cond_false];have hsi:=vDb (s:=s) (by rw[e]);rw[Yia _ h.tos.1,Yja _ h.buf,Yja _ h.data];simp only[Option.bind_some];rw[show (⟨⟨s.Name,s.Size,s.Many,s.Phase,s.Greeted,s.Mailing,s.From,s.To,s.Buffer,s.Data,s.Lost,s.Dots,s.Chunked,s.Left,s.Last,s.Ignore,s.Count⟩,([]:List zna),([]:List zwa)⟩:Ses)=⟨s,[],[]⟩ from rfl,(kxb b (by omega) _ hsi).1];rfl
 have e:srvF s=Z0a s.Name s.Size s.Many:=by unfold srvF;rw[if_pos hc]
 rw[e,if_pos hc,bne_iff_ne.2 hc];rfl
def newF(n:Str)(a b:Int):zha × zna × zra:=if (Z0a n a b).Code≠0 then (wsb,⟨0,[]⟩,Z0a n a b) else (⟨n,a,b,0,false,false,[],[],[],[],0,0,false,0,false,false,0⟩,⟨220,[n]⟩,⟨0,0⟩)
theorem New_eq(n:Str)(a b:Int)(h:n.length<=1048576):ywa n a b=some (newF n a b)/\VFa n a b=some (newF n a b):=by
 unfold ywa VFa newF;rw[jrb _ _ _ h,jsb _ h];simp only[Option.bind_some,zQa];by_cases hc:(Z0a n a b).Code=0
 .obtain ⟨e,_⟩:=kyb hc;rw[if_neg (by simp[hc]),hc,e];exact ⟨rfl,rfl⟩
 rw[if_pos hc,bne_iff_ne.2 hc];exact ⟨rfl,rfl⟩
def exIn:List UInt8:=[104,101,108,108,111,32,99,13,10,109,97,105,108,32,60,115,64,120,62,13,10,114,99,112,116,32,60,97,64,121,62,13,10,100,97,116,97,13,10,13,10,46,46,13,10,46,13,10,110,111,111,112,13,10]
def exS:zha:=⟨[109,120],1000,10,0,false,false,[],[],[],[],0,0,false,0,false,false,0⟩
def exId:Str:=[109,120]++ [45]++Lib.decDigits 1
def kzb:Ses:=⟨⟨[109,120],1000,10,0,true,false,[],[],[],[],0,0,false,0,false,false,1⟩,
 [⟨250,[[109,120],sizeW' ++Lib.decDigits 1000,Yha++Lib.decDigits 10]⟩,⟨250,[okW]⟩,⟨250,[okW]⟩,⟨354,[[103,111,32,111,110]]⟩,⟨250,[exId]⟩,⟨250,[okW]⟩],
 [⟨⟨[115,64,120],[⟨[97,64,121],1⟩],exId⟩,⟨[],[46,13,10]⟩⟩]⟩
theorem ex_feed:V2a ⟨exS,[],[]⟩ exIn=kzb:=by kernel_rfl
theorem ex_small:Jra exS:=⟨by decide,⟨by decide,fun r hr=>by cases hr⟩,by decide,by decide,by decide⟩
theorem exId_eq:exId=[109,120,45,49]:=by unfold exId;rw[kxa (by decide)];rfl
theorem ex_srv:srvF exS=⟨0,0⟩:=by kernel_rfl
theorem ex_new:newF [109,120] 1000 10=(exS,⟨220,[[109,120]]⟩,⟨0,0⟩):=by kernel_rfl
theorem ex_bad:newF [] 1 1=(wsb,⟨0,[]⟩,⟨10, -20⟩):=by kernel_rfl
theorem ex_feedF:YLa exS exIn=(kzb.Server,kzb.replies,kzb.mails,⟨0,0⟩):=by
 unfold YLa;rw[ex_srv,if_neg (by decide),if_neg (by decide),ex_feed]
theorem jyb:jQa=some true:=by
 unfold jQa;rw[(New_eq [109,120] 1000 10 (by decide)).1,ex_new];simp only[Option.bind_some];rw[show ([(104:UInt8),(101:UInt8),(108:UInt8),(108:UInt8),(111:UInt8),(32:UInt8),(99:UInt8),(13:UInt8),(10:UInt8),(109:UInt8),(97:UInt8),(105:UInt8),(108:UInt8),(32:UInt8),(60:UInt8),(115:UInt8),(64:UInt8),(120:UInt8),(62:UInt8),(13:UInt8),(10:UInt8),(114:UInt8),(99:UInt8),(112:UInt8),(116:UInt8),(32:UInt8),(60:UInt8),(97:UInt8),(64:UInt8),(121:UInt8),(62:UInt8),(13:UInt8),(10:UInt8),(100:UInt8),(97:UInt8),(116:UInt8),(97:UInt8),(13:UInt8),(10:UInt8),(13:UInt8),(10:UInt8),(46:UInt8),(46:UInt8),(13:UInt8),(10:UInt8),(46:UInt8),(13:UInt8),(10:UInt8),(110:UInt8),(111:UInt8),(111:UInt8),(112:UInt8),(13:UInt8),(10:UInt8)]:List UInt8)=exIn from rfl,jxb exS exIn ex_small (by decide),ex_feedF,(New_eq [] 1 1 (by decide)).1,ex_bad];simp only[Option.bind_some,K5a];rw[show idx kzb.replies 3=some ⟨354,[[103,111,32,111,110]]⟩ from rfl,show idx kzb.replies 4=some ⟨250,[exId]⟩ from rfl,show idx kzb.replies 5=some ⟨250,[okW]⟩ from rfl,show idx kzb.mails 0=some ⟨⟨[115,64,120],[⟨[97,64,121],1⟩],exId⟩,⟨[],[46,13,10]⟩⟩ from rfl];simp only[Option.bind_some];rw[z5b _ _ (by simp),exId_eq];rfl
theorem jzb{s:zha}(h:zha.bk s<=1048576):Jra s:=by
 unfold zha.bk at h;dsimp only at h;have h1:=J8a (bk:=fun _:UInt8=>1) (fun x=>by simp) s.Buffer;have h2:=J8a (bk:=fun _:UInt8=>1) (fun x=>by simp) s.Data;exact ⟨by omega,yKb (by omega),by omega,by omega,by omega⟩
def Out(x:Ses):Prop:=(∀r∈x.replies,r.Lines.length<=3)/\∀m∈x.mails,m.Envelope.To.length<=60/\m.Message.Fields.length<=60
structure VS (s:zha):Prop where
 frm:s.From=[]∨k3a s.From=true
 len:(s.To.length:Int)<=s.Many
 tos:(recF s.To).Code=0
 greet:s.Mailing=true->s.Greeted=true
 quiet:s.Mailing=false->s.From=[]/\s.To=[]
 chunk:s.Chunked=true->s.To≠ []
 data:(s.Data.length:Int)<=s.Size
 lost:0<=s.Lost/\s.Lost<=1099511627776
 count:0<=s.Count/\s.Count<=1000000
 dat:s.Chunked=false->s.Phase≠1->s.Data=[]/\s.Lost=0
 p0:s.Phase=0->s.Buffer.length<=4001/\Vpa s.Buffer=false/\s.Dots=0/\s.Left=0/\s.Last=false/\s.Ignore=false
 p1:s.Phase=1->s.To≠ []/\s.Chunked=false/\s.Buffer=[]/\(0<=s.Dots/\s.Dots<=4)/\s.Left=0/\s.Last=false/\s.Ignore=false
 p2:s.Phase=2->s.Ignore=s.To.isEmpty/\s.Ignore= !s.Chunked/\s.Buffer=[]/\s.Dots=0/\(1<=s.Left/\s.Left<=1000000)
 p3:s.Phase=3->s.Mailing=false/\s.Buffer=[]/\s.Dots=0/\s.Left=0/\s.Last=false/\s.Ignore=false
 ph:s.Phase=0∨s.Phase=1∨s.Phase=2∨s.Phase=3
theorem jAb(s:zha):okB s=true↔(¬((s.From≠ []/\k3a s.From=false)∨s.Many < (s.To.length:Int)∨(recF s.To).Code≠0)/\
 ¬((s.Greeted=false/\s.Mailing=true)∨(s.Mailing=false/\(s.From≠ []∨s.To≠ []))∨(s.Chunked=true/\s.To=[]))/\
 ¬(s.Size < (s.Data.length:Int)∨(s.Lost < 0∨1099511627776 < s.Lost)∨(s.Count < 0∨1000000 < s.Count))/\
 ¬((s.Data≠ []∨0 < s.Lost)/\s.Chunked=false/\s.Phase≠1)/\
 (
  s.Phase=0/\s.Buffer.length<=4001/\Vpa s.Buffer=false/\s.Dots=0/\s.Left=0/\s.Last=false/\s.Ignore=false∨
  s.Phase=1/\s.To≠ []/\s.Chunked=false/\s.Buffer=[]/\(0<=s.Dots/\s.Dots<=4)/\s.Left=0/\s.Last=false/\s.Ignore=false∨
  s.Phase=2/\s.Ignore=s.To.isEmpty/\s.Ignore= !s.Chunked/\s.Buffer=[]/\s.Dots=0/\(1<=s.Left/\s.Left<=1000000)∨
  s.Phase=3/\s.Mailing=false/\s.Buffer=[]/\s.Dots=0/\s.Left=0/\s.Last=false/\s.Ignore=false)):=by
 unfold okB;have eb:decide ((s.Buffer.length:Int) < 4002)=decide (s.Buffer.length<=4001):=by rw[Bool.eq_iff_iff];simp only[decide_eq_true_eq];omega
 have ed:decide ((0:Int) < (s.Data.length:Int))= !s.Data.isEmpty:=vAb _;rw[eb,ed];by_cases p0:s.Phase=0
 .simp[p0,List.isEmpty_iff,bne]
  grind
 by_cases p1:s.Phase=1
 .simp[p1,List.isEmpty_iff,bne]
  grind
 by_cases p2:s.Phase=2
 .simp[p2,List.isEmpty_iff,bne]
  grind
 by_cases p3:s.Phase=3
 .simp[p3,List.isEmpty_iff,bne]
  grind
 simp[p0,p1,p2,p3]
theorem vs_of_ok{s:zha}(h:okB s=true):VS s:=by
 obtain ⟨a,b,c,d,e⟩:=(jAb s).1 h;have hl:0<=s.Lost:=by omega
 refine ⟨?_,by omega,Decidable.byContradiction fun x=>a (.inr (.inr x)),fun hm=>?_,fun hm=>?_,fun hc ht=>b (.inr (.inr ⟨hc,ht⟩)),by omega,by omega,by omega,fun hc hp=>?_,fun hp=>?_,fun hp=>?_,fun hp=>?_,fun hp=>?_,by omega⟩
 .by_cases hf:s.From=[]
  .exact .inl hf
  cases ha:k3a s.From with
  | true=>exact .inr rfl
  | false=>exact absurd (.inl ⟨hf,ha⟩) a
 .cases hg:s.Greeted with
  | true=>rfl
  | false=>exact absurd (.inl ⟨hg,hm⟩) b
 .constructor
  .by_cases hf:s.From=[]
   .exact hf
   exact absurd (.inr (.inl ⟨hm,.inl hf⟩)) b
  by_cases hf:s.To=[]
  .exact hf
  exact absurd (.inr (.inl ⟨hm,.inr hf⟩)) b
 .constructor
  .by_cases hf:s.Data=[]
   .exact hf
   exact absurd ⟨.inl hf,hc,hp⟩ d
  by_cases hf:0 < s.Lost
  .exact absurd ⟨.inr hf,hc,hp⟩ d
  omega
 .rcases e with e | e | e | e
  .exact e.2
  .omega
  .omega
  omega
 .rcases e with e | e | e | e
  .omega
  .exact e.2
  .omega
  omega
 .rcases e with e | e | e | e
  .omega
  .omega
  .exact e.2
  omega
 rcases e with e | e | e | e
 .omega
 .omega
 .omega
 exact e.2
theorem Yma:∀(n:Nat) (l:List zca),(∀r∈wka n l,∃q∈l,q.Address=r.Address)/\((wka n l).map (·.Address)).Nodup
 | 0,l=>by simp[wka]
 | n+1,[]=>by simp[wka]
 | n+1,r::t=>by
  obtain ⟨h1,h2⟩:=Yma n (t.filter fun x=> !z7a r.Address x);unfold wka;refine ⟨fun x hx=>?_,?_⟩
  .rcases List.mem_cons.1 hx with rfl | hx
   .exact ⟨r,by simp,rfl⟩
   obtain ⟨q,hq,e⟩:=h1 x hx;exact ⟨q,by simp[(List.mem_filter.1 hq).1],e⟩
  rw[List.map_cons,List.nodup_cons];refine ⟨fun hm=>?_,h2⟩;obtain ⟨x,hx,e⟩:=List.mem_map.1 hm;obtain ⟨q,hq,e2⟩:=h1 x hx;have:=(List.mem_filter.1 hq).2;unfold z7a at this;simp at this;exact this (e2.trans e)
theorem wtb{l:List zca}(h:∀r∈l,k3a r.Address=true/\k4a r.Notify=true):(recF (vTa l)).Code=0:=by
 rw[recF_of (VOa h).2 (Yma l.length l).2]
theorem Yna(x:UInt8)(l:List UInt8):Vpa (x::l)=([13,10].isPrefixOf (x::l) || Vpa l):=by
 have hge:=Lib.index_ge l [13,10];unfold Vpa;rw[Lib.index];cases hp: [13,10].isPrefixOf (x::l) with
 | true=>rfl
 | false=>
  simp only[Bool.false_eq_true,if_false,Bool.false_or];by_cases hi:Lib.index l [13,10]= -1
  .rw[hi];rfl
  rw[if_neg (by simpa using hi),decide_eq_true (by omega),decide_eq_true hi]
theorem kAb(c:UInt8):∀b:List UInt8,Vpa (b++ [c])=(Vpa b || [13,10].isSuffixOf (b++ [c]))
 | []=>by
  have h1:([13,10]:List UInt8).isSuffixOf ([]++ [c])=false:=by
   rw[Bool.eq_false_iff];intro h;have:=(List.isSuffixOf_iff_suffix.1 h).length_le;simp at this
  rw[h1,List.nil_append,Yna];have h2:([13,10]:List UInt8).isPrefixOf [c]=false:=by simp[List.isPrefixOf]
  rw[h2];rfl
 | x::b=>by
  have ih:=kAb c b;rw[List.cons_append,Yna,Yna,ih];cases b with
  | nil=>
   have e1:([13,10]:List UInt8).isPrefixOf (x::([]++ [c]))=([13,10]:List UInt8).isSuffixOf (x::([]++ [c])):=by
    rw[show x::([]++ [c])=[x]++ [c] from rfl,Wla];have a1:((13:UInt8)==x)=(x==13):=by rw[Bool.eq_iff_iff,beq_iff_eq,beq_iff_eq];exact eq_comm
    have a2:((10:UInt8)==c)=(c==10):=by rw[Bool.eq_iff_iff,beq_iff_eq,beq_iff_eq];exact eq_comm
    show ((13==x) && ((10==c) && true))=(true && ((x==13) && (c==10)));rw[a1,a2];simp
   have e2:([13,10]:List UInt8).isSuffixOf ([]++ [c])=false:=by
    rw[Bool.eq_false_iff];intro h;have:=(List.isSuffixOf_iff_suffix.1 h).length_le;simp at this
   have e3:([13,10]:List UInt8).isPrefixOf [x]=false:=by simp[List.isPrefixOf]
   rw[e1,e2,e3];cases ([13,10]:List UInt8).isSuffixOf (x::([]++ [c])) <;> rfl
  | cons y b=>
   have e1:([13,10]:List UInt8).isPrefixOf (x::(y::b++ [c]))=([13,10]:List UInt8).isPrefixOf (x::y::b):=by simp[List.isPrefixOf]
   have e2:([13,10]:List UInt8).isSuffixOf (x::(y::b++ [c]))=([13,10]:List UInt8).isSuffixOf (y::b++ [c]):=by
    rw[show x::(y::b++ [c])=(x::y::b)++ [c] from rfl,Wla,Wla]
    congr 1
    .simp
    congr 2
    simp
   rw[e1,e2,Bool.or_assoc]
def P0(s:zha):Prop:=s.Buffer.length<=4001/\Vpa s.Buffer=false/\s.Dots=0/\s.Left=0/\s.Last=false/\s.Ignore=false
theorem jBb{x:Ses}(hm:0<=x.Server.Many)(hs:0<=x.Server.Size)(hc:0<=x.Server.Count/\x.Server.Count<=1000000)(hp:x.Server.Phase=0)(h0:P0 x.Server):VS (abS x).Server where
 frm:=.inl rfl
 len:=hm
 tos:=rfl
 greet:=fun h=>by cases h
 quiet:=fun _=>⟨rfl,rfl⟩
 chunk:=fun h=>by cases h
 data:=hs
 lost:=⟨by show (0:Int)<=0;omega,by show (0:Int)<=_;omega⟩
 count:=hc
 dat:=fun _ _=>⟨rfl,rfl⟩
 p0:=fun _=>h0
 p1:=fun h=>absurd (hp.symm.trans h) (by decide)
 p2:=fun h=>absurd (hp.symm.trans h) (by decide)
 p3:=fun h=>absurd (hp.symm.trans h) (by decide)
 ph:=.inl hp
theorem jCb{x:Ses}(hm:0<=x.Server.Many)(hs:0<=x.Server.Size)(hc:0<=x.Server.Count/\x.Server.Count<=1000000)(hp:x.Server.Phase=0)(h0:P0 x.Server):VS (V1a x).Server:=by
 unfold V1a;split
 .exact jBb (x:=sayS x 552 [ksb]) hm hs hc hp h0
 split
 .exact jBb (x:=sayS x 554 [ztb]) hm hs hc hp h0
 rename_i hr;have:x.Server.Count≠1000000:=fun e=>hr (.inr e)
 exact jBb (x:=sayS ⟨{x.Server with Count:=x.Server.Count+1},_,_⟩ 250 [idS x.Server]) hm hs ⟨by show 0<=x.Server.Count+1;omega,by show x.Server.Count+1<=_;omega⟩ hp h0
theorem jDb{s:zha}(hb:s.Buffer=[])(hd:s.Dots=0)(hl:s.Left=0)(h1:s.Last=false)(h2:s.Ignore=false):P0 s:=by
 refine ⟨by rw[hb];simp,by rw[hb];rfl,hd,hl,h1,h2⟩
theorem vEb{y:zha}(h:VS y)(hm:0<=y.Many)(hs:0<=y.Size)(hp:y.Phase=2)(r:List zna)(m:List zwa):VS (Zsa ⟨{y with Left:=0},r,m⟩).Server:=by
 obtain ⟨q1,q2,q3,q4,q5⟩:=h.p2 hp;have key:VS {y with Left:=0,Phase:=0,Last:=false,Ignore:=false}:=by
  obtain ⟨a1,a2,a3,a4,a5,a6,a7,a8,a9,a10,a11,a12,a13,a14,a15⟩:=h;exact ⟨a1,a2,a3,a4,a5,a6,a7,a8,a9,fun hc _=>a10 hc (by rw[hp];decide),fun _=>jDb q3 q4 rfl rfl rfl,fun e=>absurd (show (0:Int)=1 from e) (by decide),fun e=>absurd (show (0:Int)=2 from e) (by decide),fun e=>absurd (show (0:Int)=3 from e) (by decide),.inl rfl⟩
 unfold Zsa;dsimp only;cases y.Ignore with
 | true=>exact key
 | false=>
  cases y.Last with
  | true=>exact jCb (x:=⟨{y with Left:=0,Phase:=0,Last:=false,Ignore:=false},r,m⟩) hm hs h.count rfl (jDb q3 q4 rfl rfl rfl)
  | false=>exact key
theorem exec_vs{x:Ses}(h:VS x.Server)(hm:1<=x.Server.Many)(hs:1<=x.Server.Size)(hp:x.Server.Phase=0)(hb:x.Server.Buffer=[])(hrec:∀r∈x.Server.To,k3a r.Address=true/\k4a r.Notify=true){c:zla}(ok:YHa c):VS (YJa x c).Server:=by
 have h0:P0 x.Server:=h.p0 hp;have hv:=ok.verb;have hsz:=ok.size;obtain ⟨b1,b2,hd,hl,hla,hig⟩:=h0;have ha:=jBb (x:=x) (by omega) (by omega) h.count hp ⟨b1,b2,hd,hl,hla,hig⟩;have e1:∀{k:Int},x.Server.Phase=k->k=0:=fun e=>e.symm.trans hp
 unfold YJa;by_cases h1:c.Verb=1
 .rw[if_pos h1];obtain ⟨a1,a2,a3,a4,a5,a6,a7,a8,a9,a10,a11,a12,a13,a14,a15⟩:=ha;exact ⟨a1,a2,a3,fun _=>rfl,a5,a6,a7,a8,a9,a10,a11,a12,a13,a14,a15⟩
 rw[if_neg h1];by_cases h2:c.Verb=2
 .rw[if_pos h2];cases hg: !x.Server.Greeted || x.Server.Mailing with
  | true=>exact h
  | false=>
   simp only[cond_false];split
   .exact h
   have hgr:x.Server.Greeted=true:=by
    cases hx:x.Server.Greeted with
    | true=>rfl
    | false=>rw[hx]at hg;cases hg
   obtain ⟨a1,a2,a3,a4,a5,a6,a7,a8,a9,a10,a11,a12,a13,a14,a15⟩:=h;refine ⟨?_,a2,a3,fun _=>hgr,fun e=>(by cases e),a6,a7,a8,a9,a10,a11,a12,a13,fun e=>absurd (e1 e) (by decide),a15⟩;by_cases hn:c.Address=[]
   .exact .inl hn
   exact .inr (ok.addr (.inr ⟨h2,hn⟩))
 rw[if_neg h2];by_cases h3:c.Verb=3
 .rw[if_pos h3];unfold ktb;cases hg: !x.Server.Mailing || x.Server.Chunked with
  | true=>exact h
  | false=>
   simp only[cond_false];split
   .exact h
   rename_i hmany;have hmail:x.Server.Mailing=true:=by
    cases hx:x.Server.Mailing with
    | true=>rfl
    | false=>rw[hx]at hg;cases hg
   have hch:x.Server.Chunked=false:=by
    cases hx:x.Server.Chunked with
    | false=>rfl
    | true=>rw[hx]at hg;simp at hg
   have hl2:∀r∈x.Server.To++ [(⟨c.Address,c.Notify⟩:zca)],k3a r.Address=true/\k4a r.Notify=true:=by
    intro r hr;rcases List.mem_append.1 hr with hr | hr
    .exact hrec r hr
    rw[List.mem_singleton]at hr;subst hr;refine ⟨ok.addr (.inl h3),?_⟩;have:=ok.note;show k4a c.Notify=true;unfold k4a;rw[decide_eq_true this.1,decide_eq_true this.2];rfl
   obtain ⟨a1,a2,a3,a4,a5,a6,a7,a8,a9,a10,a11,a12,a13,a14,a15⟩:=h;exact ⟨a1,by show ((addR x c).length:Int)<=x.Server.Many;omega,wtb hl2,a4,fun e=>absurd (hmail.symm.trans e) (by decide),fun e=>absurd (hch.symm.trans e) (by decide),a7,a8,a9,a10,a11,fun e=>absurd (e1 e) (by decide),fun e=>absurd (e1 e) (by decide),fun e=>absurd (e1 e) (by decide),a15⟩
 rw[if_neg h3];by_cases h4:c.Verb=4
 .rw[if_pos h4];cases hg:x.Server.To.isEmpty || x.Server.Chunked with
  | true=>exact h
  | false=>
   have hne:x.Server.To≠ []:=by
    intro e;rw[e]at hg;cases hg
   have hch:x.Server.Chunked=false:=by
    cases hx:x.Server.Chunked with
    | false=>rfl
    | true=>rw[hx]at hg;simp at hg
   obtain ⟨a1,a2,a3,a4,a5,a6,a7,a8,a9,a10,a11,a12,a13,a14,a15⟩:=h;exact ⟨a1,a2,a3,a4,a5,a6,a7,a8,a9,fun _ e=>absurd rfl e,fun e=>absurd (show (1:Int)=0 from e) (by decide),fun _=>⟨hne,hch,hb,⟨by show 0<=x.Server.Dots;omega,by show x.Server.Dots<=4;omega⟩,hl,hla,hig⟩,fun e=>absurd (show (1:Int)=2 from e) (by decide),fun e=>absurd (show (1:Int)=3 from e) (by decide),.inr (.inl rfl)⟩
 rw[if_neg h4];by_cases h5:c.Verb=5
 .rw[if_pos h5];have key:∀k:Int,1<=k->k<=1000000->VS {x.Server with Phase:=2,Left:=k,Last:=c.Last,Ignore:=x.Server.To.isEmpty,Chunked:= !x.Server.To.isEmpty}:=by
   intro k hk1 hk2;obtain ⟨a1,a2,a3,a4,a5,a6,a7,a8,a9,a10,a11,a12,a13,a14,a15⟩:=h;refine ⟨a1,a2,a3,a4,a5,fun e ht=>?_,a7,a8,a9,fun hc _=>?_,fun e=>absurd (show (2:Int)=0 from e) (by decide),fun e=>absurd (show (2:Int)=1 from e) (by decide),fun _=>⟨rfl,by show x.Server.To.isEmpty= !(!x.Server.To.isEmpty);simp,hb,hd,hk1,hk2⟩,fun e=>absurd (show (2:Int)=3 from e) (by decide),.inr (.inr (.inl rfl))⟩
   .have e:(!x.Server.To.isEmpty)=true:=e;have ht:x.Server.To=[]:=ht;rw[ht]at e;cases e
   have hc:(!x.Server.To.isEmpty)=false:=hc;have ht:x.Server.To=[]:=List.isEmpty_iff.1 (by simpa using hc);refine a10 ?_ (by rw[hp];decide);cases hx:x.Server.Chunked with
   | false=>rfl
   | true=>exact absurd ht (a6 hx)
  by_cases hz:c.Size=0
  .rw[if_pos hz,hz];exact vEb (y:={x.Server with Phase:=2,Left:=1,Last:=c.Last,Ignore:=x.Server.To.isEmpty,Chunked:= !x.Server.To.isEmpty}) (key 1 (by omega) (by omega)) (by show 0<=x.Server.Many;omega) (by show 0<=x.Server.Size;omega) rfl _ _
  rw[if_neg hz];exact key c.Size (by omega) hsz.2
 rw[if_neg h5];by_cases h6:c.Verb=6
 .rw[if_pos h6];exact ha
 rw[if_neg h6];by_cases h8:c.Verb=8
 .rw[if_pos h8];obtain ⟨a1,a2,a3,a4,a5,a6,a7,a8,a9,a10,a11,a12,a13,a14,a15⟩:=ha;exact ⟨a1,a2,a3,a4,a5,a6,a7,a8,a9,fun _ _=>⟨rfl,rfl⟩,fun e=>absurd (show (3:Int)=0 from e) (by decide),fun e=>absurd (show (3:Int)=1 from e) (by decide),fun e=>absurd (show (3:Int)=2 from e) (by decide),fun _=>⟨rfl,rfl,hd,hl,hla,hig⟩,.inr (.inr (.inr rfl))⟩
 rw[if_neg h8];exact h
theorem buf_vs{x:Ses}(h:VS x.Server)(hp:x.Server.Phase=0){b:List UInt8}(hb:b.length<=4001)(hc:Vpa b=false):VS (bufS x b).Server:=by
 have e1:∀{k:Int},x.Server.Phase=k->k=0:=fun e=>e.symm.trans hp
 obtain ⟨b1,b2,hd,hl,hla,hig⟩:=h.p0 hp;obtain ⟨a1,a2,a3,a4,a5,a6,a7,a8,a9,a10,a11,a12,a13,a14,a15⟩:=h;exact ⟨a1,a2,a3,a4,a5,a6,a7,a8,a9,a10,fun _=>⟨hb,hc,hd,hl,hla,hig⟩,fun e=>absurd (e1 e) (by decide),fun e=>absurd (e1 e) (by decide),fun e=>absurd (e1 e) (by decide),a15⟩
theorem line_vs{x:Ses}{n:Nat}(hsi:SI x n)(h:VS x.Server)(hp:x.Server.Phase=0)(c:UInt8):VS (zub x c).Server:=by
 have hlen:(x.Server.Buffer++ [c]).length=x.Server.Buffer.length+1:=by simp
 have hb:=hsi.buf;have h0:P0 x.Server:=h.p0 hp;have hbuf:=buf_vs h hp (b:=[]) (by simp) rfl;unfold zub;split
 .generalize hR:ZYa ((x.Server.Buffer++ [c]).take ((x.Server.Buffer++ [c]).length - 2))=r;dsimp only;split
  .exact hbuf
  split
  .rename_i hz;exact exec_vs (x:=bufS x []) hbuf hsi.many.1 hsi.size.1 hp rfl hsi.tos.2 (by rw[<-hR]at hz ⊢;exact zxb hz)
  exact hbuf
 rename_i hs;split
 .have ha:=jBb (x:=x) (by have:=hsi.many;omega) (by have:=hsi.size;omega) h.count hp h0;obtain ⟨b1,b2,hd,hl,hla,hig⟩:=h0;obtain ⟨a1,a2,a3,a4,a5,a6,a7,a8,a9,a10,a11,a12,a13,a14,a15⟩:=ha;exact ⟨a1,a2,a3,a4,a5,a6,a7,a8,a9,fun _ _=>⟨rfl,rfl⟩,fun e=>absurd (show (3:Int)=0 from e) (by decide),fun e=>absurd (show (3:Int)=1 from e) (by decide),fun e=>absurd (show (3:Int)=2 from e) (by decide),fun _=>⟨rfl,rfl,hd,hl,hla,hig⟩,.inr (.inr (.inr rfl))⟩
 rename_i h4;refine buf_vs h hp (by omega) ?_;rw[kAb,(h.p0 hp).2.1,Bool.false_or];exact Bool.eq_false_iff.2 hs
theorem Yoa{x:Ses}(h:VS x.Server)(hs:1<=x.Server.Size)(hp:x.Server.Phase=1∨x.Server.Chunked=true)(c:UInt8):VS (qaa x c).Server:=by
 unfold qaa;obtain ⟨a1,a2,a3,a4,a5,a6,a7,a8,a9,a10,a11,a12,a13,a14,a15⟩:=h;have no:x.Server.Chunked=false->x.Server.Phase≠1->False:=fun e1 e2=>hp.elim e2 fun e=>by rw[e]at e1;cases e1
 split
 .rename_i hlt;exact ⟨a1,a2,a3,a4,a5,a6,by show ((x.Server.Data++ [c]).length:Int)<=_;simp;omega,a8,a9,fun e1 e2=>(no e1 e2).elim,a11,a12,a13,a14,a15⟩
 exact ⟨a1,a2,a3,a4,a5,a6,a7,⟨by show 0<=min _ _;omega,by show min _ _<=_;omega⟩,a9,fun e1 e2=>(no e1 e2).elim,a11,a12,a13,a14,a15⟩
theorem zAb{x:Ses}(h:VS x.Server)(hp:x.Server.Phase=1){d:Int}(hd:0<=d/\d<=4):VS (YKa x d).Server:=by
 have e1:∀{k:Int},x.Server.Phase=k->k=1:=fun e=>e.symm.trans hp
 obtain ⟨a1,a2,a3,a4,a5,a6,a7,a8,a9,a10,a11,a12,a13,a14,a15⟩:=h;obtain ⟨q1,q2,q3,q4,q5⟩:=a12 hp;exact ⟨a1,a2,a3,a4,a5,a6,a7,a8,a9,a10,fun e=>absurd (e1 e) (by decide),fun _=>⟨q1,q2,q3,hd,q5⟩,fun e=>absurd (e1 e) (by decide),fun e=>absurd (e1 e) (by decide),a15⟩
theorem kBb(x:Ses)(c:UInt8):(qaa x c).Server.Size=x.Server.Size/\(qaa x c).Server.Chunked=x.Server.Chunked:=by unfold qaa;split <;> exact ⟨rfl,rfl⟩
theorem data_vs{x:Ses}{n:Nat}(hsi:SI x n)(h:VS x.Server)(hp:x.Server.Phase=1)(c:UInt8):VS (zvb x c).Server:=by
 have hs:=hsi.size;have hm:=hsi.many;unfold zvb;split
 .exact zAb h hp (by omega)
 split
 .exact zAb h hp (by omega)
 split
 .obtain ⟨q1,q2,q3,q4,q5,q6,q7⟩:=h.p1 hp;exact jCb (x:=⟨{x.Server with Phase:=0,Dots:=0},x.replies,x.mails⟩) (by show 0<=x.Server.Many;omega) (by show 0<=x.Server.Size;omega) h.count rfl (jDb q3 rfl q5 q6 q7)
 have hd:∀(p q:Prop) [Decidable p] [Decidable q],0<=(if p then (4:Int) else if q then 0 else 3)/\(if p then (4:Int) else if q then 0 else 3)<=4:=by
  intro p q _ _;split
  .omega
  split <;> omega
 split
 .have h1:=Yoa h hs.1 (.inl hp) 13;have hp1:(qaa x 13).Server.Phase=1:=by rw[(qta x 13).2];exact hp
  exact zAb (Yoa h1 (by rw[(kBb x 13).1];exact hs.1) (.inl hp1) c) (by rw[(qta _ _).2];exact hp1) (hd _ _)
 exact zAb (Yoa h hs.1 (.inl hp) c) (by rw[(qta _ _).2];exact hp) (hd _ _)
theorem byte_vs{x:Ses}{n:Nat}(hsi:SI x n)(h:VS x.Server)(c:UInt8):VS (Voa x c).Server:=by
 unfold Voa;split
 .rename_i hp;exact line_vs hsi h hp c
 split
 .rename_i hp;exact data_vs hsi h hp c
 split
 .rename_i hp;have hy:VS (bif x.Server.Ignore then x else qaa x c).Server/\(bif x.Server.Ignore then x else qaa x c).Server.Phase=2/\SI (bif x.Server.Ignore then x else qaa x c) n:=by
   cases hi:x.Server.Ignore with
   | true=>exact ⟨h,hp,hsi⟩
   | false=>
    have hc:x.Server.Chunked=true:=by
     have:=(h.p2 hp).2.1;rw[hi]at this;cases hx:x.Server.Chunked with
     | true=>rfl
     | false=>rw[hx]at this;cases this
    exact ⟨Yoa h hsi.size.1 (.inr hc) c,by show (qaa x c).Server.Phase=2;rw[(qta x c).2];exact hp,joa hsi c⟩
  generalize (bif x.Server.Ignore then x else qaa x c)=y at hy;obtain ⟨hy,hyp,hysi⟩:=hy;have hm:=hysi.many;have hs:=hysi.size;dsimp only;split
  .rename_i hz;rw[hz];exact vEb hy (by omega) (by omega) hyp _ _
  rename_i hz;have e1:∀{k:Int},y.Server.Phase=k->k=2:=fun e=>e.symm.trans hyp
  obtain ⟨a1,a2,a3,a4,a5,a6,a7,a8,a9,a10,a11,a12,a13,a14,a15⟩:=hy;obtain ⟨q1,q2,q3,q4,q5,q6⟩:=a13 hyp;exact ⟨a1,a2,a3,a4,a5,a6,a7,a8,a9,a10,fun e=>absurd (e1 e) (by decide),fun e=>absurd (e1 e) (by decide),fun _=>⟨q1,q2,q3,q4,by show 1<=y.Server.Left - 1;omega,by show y.Server.Left - 1<=_;omega⟩,fun e=>absurd (e1 e) (by decide),a15⟩
 exact h
def idN(nm:Str)(k:Nat):Str:=nm++ [45]++Lib.decDigits k
theorem idN_inj{nm:Str}{j k:Nat}(h:idN nm j=idN nm k):j=k:=by
 have h:=List.append_cancel_left h;have:=Kra j;rw[h,Kra k]at this;exact (Option.some.inj this).symm
theorem idN_ok(nm:Str)(k:Nat): [idN nm k]≠ [okW]:=by
 intro h;have h:idN nm k=okW:=List.head_eq_of_cons_eq h;have h45:(45:UInt8)∈idN nm k:=by simp[idN]
 rw[h]at h45;simp[okW]at h45
theorem idN_name{nm:Str}{k:Nat}(h:v9a nm=true)(hl:nm.length<=40)(hk:k<=1000001):v9a (idN nm k)=true:=by
 have h7:=jVa hk;have hp:=zpb k;unfold v9a at h ⊢;simp only[Bool.and_eq_true,decide_eq_true_eq,List.all_eq_true]at h ⊢;refine ⟨⟨by simp[idN];omega,by simp[idN];omega⟩,fun c hc=>?_⟩;unfold idN at hc;rcases List.mem_append.1 hc with hc | hc
 .rcases List.mem_append.1 hc with hc | hc
  .exact h.2 c hc
  rw[List.mem_singleton.1 hc];rfl
 obtain ⟨h1,h2⟩:=qHb k c hc;have e:c=UInt8.ofNat c.toNat:=(UInt8.ofNat_toNat).symm;rw[e];have:c.toNat=48∨c.toNat=49∨c.toNat=50∨c.toNat=51∨c.toNat=52∨c.toNat=53∨c.toNat=54∨c.toNat=55∨c.toNat=56∨c.toNat=57:=by omega
 rcases this with h | h | h | h | h | h | h | h | h | h <;> rw[h] <;> rfl
def sdP(nm:Str)(k:Nat)(r:zna):Bool:=r.Code==250 && r.Lines==[idN nm k]
def kCb(nm:Str)(R:List zna)(k:Nat):Nat:=R.countP (sdP nm k)
def okM(nm:Str)(many:Int)(k:Nat)(m:zwa):Prop:=m.Envelope.Id=idN nm k/\keb m=⟨0,0⟩/\(m.Envelope.To.length:Int)<=many/\yJb m.Envelope/\Jba m.Message
structure MI (nm:Str) (mx:Int) (c0:Nat) (x:Ses):Prop where
 name:x.Server.Name=nm
 many:x.Server.Many=mx
 count:x.Server.Count=((c0+x.mails.length:Nat):Int)
 ok:∀i m,x.mails[i]? =some m->okM nm mx (c0+1+i) m
 said:∀i,kCb nm x.replies (c0+1+i)=if i < x.mails.length then 1 else 0
theorem MI.of{nm:Str}{many:Int}{c0:Nat}{x:Ses}(h:MI nm many c0 x){s:zha}(h1:s.Name=x.Server.Name)(h2:s.Many=x.Server.Many)(h3:s.Count=x.Server.Count):MI nm many c0 ⟨s,x.replies,x.mails⟩:=
 ⟨h1.trans h.name,h2.trans h.many,h3.trans h.count,h.ok,h.said⟩
theorem MI.say{nm:Str}{many:Int}{c0:Nat}{x:Ses}(h:MI nm many c0 x){code:Int}{l:List Str}(hl:code≠250∨l.length≠1∨l=[okW]):MI nm many c0 (sayS x code l):=by
 refine ⟨h.name,h.many,h.count,h.ok,fun i=>?_⟩;have e:sdP nm (c0+1+i) ⟨code,l⟩=false:=by
  unfold sdP;rcases hl with hl | hl | hl
  .simp[hl]
  .have:l≠ [idN nm (c0+1+i)]:=fun e=>hl (by rw[e];rfl)
   simp[this]
  subst hl;have:=(idN_ok nm (c0+1+i)).symm;simp only[beq_eq_false_iff_ne.2 this,Bool.and_false]
 rw[show (sayS x code l).mails=x.mails from rfl,<-h.said i];unfold kCb sayS;simp[e]
theorem wub{m:zwa}(h:keb m=⟨0,0⟩):(envF m.Envelope).Code=0/\(msgF m.Message).Code=0:=by
 unfold keb at h;split at h
 .rename_i hc;rw[h]at hc;exact absurd hc (by decide)
 rename_i hc;split at h
 .rename_i hd;rw[show (msgF m.Message).Code=0 from congrArg zra.Code h]at hd;exact absurd hd (by decide)
 rename_i hd;exact ⟨by simpa using hc,by simpa using hd⟩
theorem write_ok{m:zwa}(h:keb m=⟨0,0⟩)(h2:Jba m.Message):v4a m.Message=some (wba m.Message,⟨0,0⟩):=by
 have hm:=(wub h).2;have hh:(Zza m.Message.Fields).Code=0:=by
  unfold msgF at hm;by_cases hz:(Zza m.Message.Fields).Code=0
  .exact hz
  rw[if_pos (by simpa using hz)]at hm;exact hm
 obtain ⟨q1,q2,q3⟩:=jSa _ hh;unfold v4a;rw[vOa _ h2];simp only[Option.bind_some,zQa,kAa,hm,Zqa m.Message h2.2 (by omega) q3];rfl
theorem jEb(m:zxa):(wba m).length≠0:=by
 unfold wba;simp
theorem mail_ok{m:zwa}(h1:m.Envelope.From=[]∨k3a m.Envelope.From=true)(h2:m.Envelope.To≠ [])(h3:m.Envelope.To.length<=60)(h4:v9a m.Envelope.Id=true)(h5:(recF m.Envelope.To).Code=0)(h6:(msgF m.Message).Code=0):keb m=⟨0,0⟩:=by
 have hl:1<=m.Envelope.To.length:=by cases he:m.Envelope.To with
  | nil=>exact absurd he h2
  | cons=>simp
 have he:envF m.Envelope=recF m.Envelope.To:=by
  unfold envF;have e1:fromB m.Envelope.From=false:=by unfold fromB;rcases h1 with e | e <;> simp[e]
  have e2:(decide (m.Envelope.To.length < 1) || decide (60 < m.Envelope.To.length))=false:=by rw[decide_eq_false (by omega),decide_eq_false (by omega)];rfl
  rw[e1,e2,h4,if_neg (by decide),if_neg (by decide),if_neg (by simp)]
 unfold keb;rw[he,h5,h6];rfl
structure DN (x:Ses):Prop where
 frm:x.Server.From=[]∨k3a x.Server.From=true
 ne:x.Server.To≠ []
 len:(x.Server.To.length:Int)<=x.Server.Many
 l60:x.Server.To.length<=60
 tos:(recF x.Server.To).Code=0
 data:x.Server.Data.length<=12000
 cnt:x.Server.Count<=1000000
 nm:v9a x.Server.Name=true/\x.Server.Name.length<=40
theorem wvb{l:List zca}(h:(recF l).Code=0)(hl:l.length<=60):WRa l:=⟨by omega,fun a ha=>by
 have:=zsb ((vBb h).1 a ha).1;omega⟩
theorem wwb{b:List UInt8}(h:(yWa b).2=true):(yWa b).1=rawM b/\(msgF (rawM b)).Code=0:=by
 unfold yWa at h ⊢;by_cases h6:60 < (yga b).2.length
 .rw[if_pos h6]at h;cases h
 rw[if_neg h6]at h ⊢;by_cases hz:(msgF (rawM b)).Code=0
 .rw[if_pos hz];exact ⟨rfl,hz⟩
 rw[if_neg hz]at h;cases h
theorem jFb(nm:Str)(R:List zna)(r:zna)(k:Nat):kCb nm (R++ [r]) k=kCb nm R k+if sdP nm k r then 1 else 0:=by
 unfold kCb;rw[List.countP_append,List.countP_singleton]
theorem MI.done{nm:Str}{many:Int}{c0:Nat}{x:Ses}(h:MI nm many c0 x)(d:DN x):MI nm many c0 (V1a x):=by
 unfold V1a;have ab:∀{y:Ses},MI nm many c0 y->MI nm many c0 (abS y):=fun hy=>hy.of rfl rfl rfl
 refine ab ?_;split
 .exact h.say (.inl (by decide))
 split
 .exact h.say (.inl (by decide))
 rename_i hn;have hr:(yWa x.Server.Data).2=true:=by
  cases e:(yWa x.Server.Data).2 with
  | true=>rfl
  | false=>exact absurd (.inl e) hn
 have hnc:x.Server.Count≠1000000:=fun e=>hn (.inr e)
 have hc:=h.count;have hid:idS x.Server=idN nm (c0+1+x.mails.length):=by
  unfold idS idN;rw[h.name,show (x.Server.Count+1).toNat=c0+1+x.mails.length by omega]
 have hk:∀i,sdP nm (c0+1+i) ⟨250,[idS x.Server]⟩=decide (i=x.mails.length):=fun i=>by
  unfold sdP;rw[hid];by_cases e:i=x.mails.length
  .subst e;simp
  have:idN nm (c0+1+x.mails.length)≠idN nm (c0+1+i):=fun q=>e (by have:=idN_inj q;omega)
  have:([idN nm (c0+1+x.mails.length)]==[idN nm (c0+1+i)])=false:=beq_eq_false_iff_ne.2 fun q=>this (List.head_eq_of_cons_eq q)
  rw[decide_eq_false e];simp only[this,Bool.and_false]
 obtain ⟨q1,q2⟩:=wwb hr;have hm:okM nm many (c0+1+x.mails.length) ⟨⟨x.Server.From,x.Server.To,idS x.Server⟩,(yWa x.Server.Data).1⟩:=by
  obtain ⟨d1,d2,d3,d4,d5,d6,d7,d8,d9⟩:=d;rw[h.name]at d8 d9;rw[h.many]at d3;have hnm:=idN_name d8 d9 (k:=c0+1+x.mails.length) (by omega);have h60:=yIb hnm;rw[q1,hid];exact ⟨rfl,mail_ok d1 d2 d4 hnm d5 q2,d3,⟨by
   rcases d1 with e | e
   .show x.Server.From.length<=_;rw[e];simp
   have:=zsb e;show x.Server.From.length<=_;omega,by show (idN nm (c0+1+x.mails.length)).length<=_;omega,wvb d5 d4⟩,Vka _ d6⟩
 refine ⟨h.name,h.many,?_,fun i m hi=>?_,fun i=>?_⟩
 .show x.Server.Count+1=((c0+(x.mails++ [_]).length:Nat):Int);rw[List.length_append];simp only[List.length_cons,List.length_nil];omega
 .have hi:(x.mails++ [(⟨⟨x.Server.From,x.Server.To,idS x.Server⟩,(yWa x.Server.Data).1⟩:zwa)])[i]? =some m:=hi;by_cases hl:i < x.mails.length
  .rw[List.getElem?_append_left hl]at hi;exact h.ok i m hi
  rw[List.getElem?_append_right (by omega)]at hi;have hz:i - x.mails.length=0:=by
   by_cases e:i - x.mails.length=0
   .exact e
   rw[List.getElem?_eq_none (by simp;omega)]at hi;cases hi
  rw[hz]at hi;have hi:=Option.some.inj hi;rw[<-hi,show i=x.mails.length by omega];exact hm
 show kCb nm (x.replies++ [⟨250,[idS x.Server]⟩]) (c0+1+i)=if i < (x.mails++ [_]).length then 1 else 0;rw[jFb,h.said i,hk i,List.length_append];simp only[List.length_cons,List.length_nil,decide_eq_true_eq];by_cases h1:i < x.mails.length
 .rw[if_pos h1,if_neg (by omega),if_pos (by omega)]
 by_cases h2:i=x.mails.length
 .rw[if_neg h1,if_pos h2,if_pos (by omega)]
 rw[if_neg h1,if_neg h2,if_neg (by omega)]
theorem MI.chunk{nm:Str}{many:Int}{c0:Nat}{x:Ses}(h:MI nm many c0 x)(d:x.Server.Ignore=false->DN x):MI nm many c0 (Zsa x):=by
 unfold Zsa;have h0:MI nm many c0 ⟨{x.Server with Phase:=0,Last:=false,Ignore:=false},x.replies,x.mails⟩:=h.of rfl rfl rfl;cases hi:x.Server.Ignore with
 | true=>exact h0.say (.inl (by decide))
 | false=>
  obtain ⟨d1,d2,d3,d4,d5,d6,d7,d8⟩:=d hi;cases x.Server.Last with
  | true=>exact h0.done ⟨d1,d2,d3,d4,d5,d6,d7,d8⟩
  | false=>exact h0.say (.inr (.inr rfl))
theorem MI.exec{nm:Str}{many:Int}{c0:Nat}{x:Ses}(h:MI nm many c0 x)(d:x.Server.To≠ []->DN x)(c:zla):MI nm many c0 (YJa x c):=by
 unfold YJa;split
 .exact MI.say (x:=⟨{(abS x).Server with Greeted:=true},x.replies,x.mails⟩) (h.of rfl rfl rfl) (.inr (.inl (by simp)))
 split
 .cases !x.Server.Greeted || x.Server.Mailing with
  | true=>exact h.say (.inl (by decide))
  | false=>
   simp only[cond_false];split
   .exact h.say (.inl (by decide))
   exact MI.say (x:=⟨{x.Server with Mailing:=true,From:=c.Address},x.replies,x.mails⟩) (h.of rfl rfl rfl) (.inr (.inr rfl))
 split
 .unfold ktb;cases !x.Server.Mailing || x.Server.Chunked with
  | true=>exact h.say (.inl (by decide))
  | false=>
   simp only[cond_false];split
   .exact h.say (.inl (by decide))
   exact MI.say (x:=⟨{x.Server with To:=addR x c},x.replies,x.mails⟩) (h.of rfl rfl rfl) (.inr (.inr rfl))
 split
 .cases x.Server.To.isEmpty || x.Server.Chunked with
  | true=>exact h.say (.inl (by decide))
  | false=>exact MI.say (x:=⟨{x.Server with Phase:=1},x.replies,x.mails⟩) (h.of rfl rfl rfl) (.inl (by decide))
 split
 .split
  .refine MI.chunk (x:=⟨{x.Server with Phase:=2,Left:=c.Size,Last:=c.Last,Ignore:=x.Server.To.isEmpty,Chunked:= !x.Server.To.isEmpty},x.replies,x.mails⟩) (h.of rfl rfl rfl) fun hi=>?_
   have hi:x.Server.To.isEmpty=false:=hi;obtain ⟨d1,d2,d3,d4,d5,d6,d7,d8⟩:=d fun e=>by rw[e]at hi;cases hi
   exact ⟨d1,d2,d3,d4,d5,d6,d7,d8⟩
  exact h.of rfl rfl rfl
 split
 .exact MI.say (x:=abS x) (h.of rfl rfl rfl) (.inr (.inr rfl))
 split
 .exact MI.say (x:=⟨{(abS x).Server with Phase:=3,Buffer:=[]},x.replies,x.mails⟩) (h.of rfl rfl rfl) (.inl (by decide))
 exact h.say (.inr (.inr rfl))
theorem DN.mk'{nm:Str}{many:Int}{c0:Nat}{x:Ses}{n:Nat}(h:MI nm many c0 x)(hsi:SI x n)(v:VS x.Server)(hn:v9a nm=true)(ht:x.Server.To≠ []):DN x:=
 ⟨v.frm,ht,v.len,hsi.tos.1,v.tos,by have:=hsi.data;have:=hsi.size;omega,hsi.count.2,by rw[h.name];exact hn,hsi.name⟩
theorem MI.keep{nm:Str}{many:Int}{c0:Nat}{x:Ses}(h:MI nm many c0 x)(c:UInt8):MI nm many c0 (qaa x c):=by
 unfold qaa;split <;> exact h.of rfl rfl rfl
theorem MI.byte{nm:Str}{many:Int}{c0:Nat}{x:Ses}{n:Nat}(h:MI nm many c0 x)(hsi:SI x n)(v:VS x.Server)(hn:v9a nm=true)(c:UInt8):MI nm many c0 (Voa x c):=by
 have dn:=DN.mk' h hsi v hn;unfold Voa;split
 .unfold zub;have hb:MI nm many c0 (bufS x []):=h.of rfl rfl rfl;split
  .dsimp only;split
   .exact hb.say (.inl (by decide))
   split
   .refine hb.exec (fun ht=>?_) _;obtain ⟨d1,d2,d3,d4,d5,d6,d7,d8⟩:=dn ht;exact ⟨d1,d2,d3,d4,d5,d6,d7,d8⟩
   exact hb.say (.inl (by decide))
  split
  .exact MI.say (x:=⟨{(abS x).Server with Phase:=3,Buffer:=[]},x.replies,x.mails⟩) (h.of rfl rfl rfl) (.inl (by decide))
  exact h.of rfl rfl rfl
 split
 .rename_i hp;unfold zvb;split
  .exact h.of rfl rfl rfl
  split
  .exact h.of rfl rfl rfl
  split
  .refine MI.done (x:=⟨{x.Server with Phase:=0,Dots:=0},x.replies,x.mails⟩) (h.of rfl rfl rfl) ?_;obtain ⟨d1,d2,d3,d4,d5,d6,d7,d8⟩:=dn (v.p1 hp).1;exact ⟨d1,d2,d3,d4,d5,d6,d7,d8⟩
  split
  .exact MI.of ((h.keep 13).keep c) rfl rfl rfl
  exact MI.of (h.keep c) rfl rfl rfl
 split
 .rename_i hp;have hy:MI nm many c0 (bif x.Server.Ignore then x else qaa x c)/\((bif x.Server.Ignore then x else qaa x c).Server.Ignore=false->DN (bif x.Server.Ignore then x else qaa x c)):=by
   cases hi:x.Server.Ignore with
   | true=>exact ⟨h,fun e=>absurd (hi.symm.trans e) (by decide)⟩
   | false=>
    have hch:x.Server.Chunked=true:=by
     have:=(v.p2 hp).2.1;rw[hi]at this;cases hx:x.Server.Chunked with
     | true=>rfl
     | false=>rw[hx]at this;cases this
    have hk:=Yoa v hsi.size.1 (.inr hch) c;refine ⟨h.keep c,fun _=>DN.mk' (h.keep c) (joa hsi c) hk hn ?_⟩;exact hk.chunk (by rw[(kBb x c).2];exact hch)
  generalize (bif x.Server.Ignore then x else qaa x c)=y at hy;obtain ⟨hy,hd⟩:=hy;dsimp only;split
  .refine MI.chunk (x:=⟨{y.Server with Left:=y.Server.Left - 1},y.replies,y.mails⟩) (hy.of rfl rfl rfl) fun hi=>?_
   obtain ⟨d1,d2,d3,d4,d5,d6,d7,d8⟩:=hd hi;exact ⟨d1,d2,d3,d4,d5,d6,d7,d8⟩
  exact hy.of rfl rfl rfl
 exact h
theorem MI.feed{nm:Str}{many:Int}{c0:Nat}(hn:v9a nm=true):∀(b:List UInt8) (x:Ses) (n:Nat),MI nm many c0 x->SI x n->VS x.Server->MI nm many c0 (V2a x b)
 | [],x,n,h,_,_=>h
 | c::b,x,n,h,hs,v=>MI.feed hn b (Voa x c) (n+1) (h.byte hs v hn c) (zzb hs c) (byte_vs hs v c)
theorem MI.start{s:zha}(h:0<=s.Count):MI s.Name s.Many s.Count.toNat ⟨s,[],[]⟩:=
 ⟨rfl,rfl,by show s.Count=((s.Count.toNat+0:Nat):Int);omega,fun i m hi=>(by cases hi),fun i=>by
  show kCb s.Name [] _=if i < 0 then 1 else 0;rw[if_neg (by omega)];rfl⟩
def pre(R:List zna)(M:List zwa)(x:Ses):Ses:=⟨x.Server,R++x.replies,M++x.mails⟩
theorem feedF_ok{s:zha}{b:List UInt8}(h:(srvF s).Code=0)(hb:¬40000 < b.length):YLa s b=((V2a ⟨s,[],[]⟩ b).Server,(V2a ⟨s,[],[]⟩ b).replies,(V2a ⟨s,[],[]⟩ b).mails,⟨0,0⟩):=by
 unfold YLa;rw[if_neg (show ¬(srvF s).Code≠0 from fun e=>e h),if_neg hb]
theorem wxb{s:zha}{b:List UInt8}(h:(srvF s).Code=0)(hb:40000 < b.length):YLa s b=(wsb,[],[],⟨1, -1⟩):=by
 unfold YLa;rw[if_neg (show ¬(srvF s).Code≠0 from fun e=>e h),if_pos hb]
theorem jGb{s:zha}{b:List UInt8}(h:(srvF s).Code≠0):YLa s b=(wsb,[],[],srvF s):=by
 unfold YLa;rw[if_pos h]
theorem Zta(q:zna->Bool):∀(l:List zna) (k:Nat),l.foldl (fun (s:Nat) r=>if q r then s+1 else s) k=k+l.countP q
 | [],k=>by simp
 | r::l,k=>by
  rw[List.foldl_cons,Zta q l,List.countP_cons];cases q r <;> simp <;> omega
theorem jHb(v:zha × List zna × List zwa × zra)(nm:Str)(k i:Nat)(m:zwa)(hm:v.2.2.1[i]? =some m)(hid:m.Envelope.Id=idN nm k)(hl:v.2.1.length<=1000000):iter (zSa v (i:Int)) (0,0)=some ((kCb nm v.2.1 k:Nat):Int):=by
 obtain ⟨h1,_⟩:=yUa v.2.1 (fun j (s:Nat)=>(((s:Nat):Int),j)) (fun s r=>if sdP nm k r then s+1 else s) (fun s=>((s:Nat):Int)) (fun j s=>s<=j) (body:=zSa v (i:Int)) (fun s _=>by unfold zSa;rw[zMa];rfl) (fun j r s hr hs=>by
  have hj:=zLa hr;refine ⟨?_,by split <;> omega⟩;unfold zSa;dsimp only;rw[koa hr,zCa hr,zCa hm];simp only[cond_true,Option.bind_some,hid];rw[sc j (by omega)];have e:((bif r.Code==250 then bif ((r.Lines.length:Int)==1) then (idx r.Lines 0).bind fun v36=>some (v36==idN nm k) else some false else some false):Option Bool)=some (sdP nm k r):=by
   unfold sdP;cases r.Code==250 with
   | false=>rfl
   | true=>
    simp only[cond_true,Bool.true_and]
    match r.Lines with
    | []=>rfl
    | [a]=>
     show some (a==idN nm k)=some ([a]==[idN nm k])
     congr 1
     rw[Bool.eq_iff_iff];simp
    | a::b::l=>
     have e1:(((a::b::l).length:Int)==1)=false:=by rw[beq_eq_false_iff_ne];simp;omega
     have e2:((a::b::l)==[idN nm k])=false:=by rw[beq_eq_false_iff_ne];simp
     rw[e1,e2];rfl
  rw[e];simp only[Option.bind_some];cases sdP nm k r with
  | false=>rfl
  | true=>
   simp only[cond_true,Option.bind_some,if_true];rw[sc s (by omega)]) 0 (Nat.le_refl _)
 rw[Zta,Nat.zero_add]at h1;exact h1
theorem yYa(a0:zha)(a1:List UInt8)(o0:zha.ok a0)(o1:okL (fun _=>True) a1)(hk:zha.bk a0+bkL (fun _=>1) a1<=1048576):k2a a0 a1=some true:=by
 have hs:Jra a0:=jzb (by omega);have h1:=J8a (bk:=fun _:UInt8=>1) (fun x=>by simp) a1;unfold k2a;rw[jxb a0 a1 hs (by omega),jyb];simp only[Option.bind_some,Bool.not_true,cond_false,cond_true];by_cases h0:(srvF a0).Code=0
 .obtain ⟨hc,ho,e⟩:=vCb h0;by_cases h4:40000 < a1.length
  .rw[wxb h0 h4];rfl
  rw[feedF_ok h0 h4];simp only[show ((0:Int) !=0)=false from rfl,cond_false,Option.bind_some];have si0:=vDb h0;have v0:=vs_of_ok ho;have hn:v9a a0.Name=true:=by
   cases e:v9a a0.Name with
   | true=>rfl
   | false=>
    unfold Z0a at hc;rw[if_pos (.inl e)]at hc;exact absurd hc (by decide)
  have hcn:=v0.count;have mi:=MI.feed hn a1 _ 0 (MI.start hcn.1) si0 v0;have si1:=(kxb a1 (by omega) _ si0).2.2;generalize V2a ⟨a0,[],[]⟩ a1=x at mi si1;have hr:=si1.reps;have hml:=si1.mails;have hnl:=hs.name;rw[zTa x.mails (fun _ _=>(none:Option Bool)) (.inl ()) .inr (by unfold kza;rw[zMa];rfl) (fun i m hm=>by
   have hi:=zLa hm;obtain ⟨k1,k2,k3,k4,k5⟩:=mi.ok i m hm;have hsd:=mi.said i;rw[if_pos hi]at hsd;unfold kza;dsimp only;rw[koa hm,zCa hm];simp only[cond_true,Option.bind_some];rw[write_ok k2 k5,jHb (x.Server,x.replies,x.mails,⟨0,0⟩) a0.Name (a0.Count.toNat+1+i) i m hm k1 (by show x.replies.length<=_;omega),hsd];simp only[Option.bind_some];rw[Vha m k4 k5,k2];have ew:w64 (w64 (a0.Count+1)+(i:Int))=((a0.Count.toNat+1+i:Nat):Int):=by
    rw[qja (n:=a0.Count+1) (by omega) (by omega),qja (by omega) (by omega)];omega
   have hdl:(Lib.decDigits (a0.Count.toNat+1+i)).length<=8:=Kqa 7 _ (by omega);rw[yTa (by simp;omega),ew,K9a _ (by omega)];simp only[Option.bind_some,Int.toNat_natCast];rw[yTa (by simp;omega)];simp only[Option.bind_some];rw[sc i (by omega),k1,show (((wba m.Message).length:Int)==0)=false by rw[beq_eq_false_iff_ne];have:=jEb m.Message;omega,decide_eq_false (show ¬a0.Many < (m.Envelope.To.length:Int) by omega)];simp[idN,vXa])]
  have hz:zya (fun _ _=>(none:Option Bool)) 0 x.mails=none:=vLa.2 fun _ _ _=>rfl
  rw[hz];simp only[Option.elim_none,Option.bind_some,Sum.elim_inl];have hcc:=mi.count;rw[show x.Server.Count=a0.Count+(x.mails.length:Int) by omega,qja (by omega) (by omega)];simp
 rw[jGb h0,bne_iff_ne.2 h0];rfl
theorem R_At_run(a0:Int)(a1:Int)(r:zra)(hr:R_At a0 a1=some r):Run Tryz.prog 15 [.i a0,.i a1] (.agg [.i r.Code,.i r.Index]):=by
 unfold R_At at hr;refine rf (fn:=Tryz.f15) ⟨Tryz.func15,rfl,by kernel_rfl⟩ rfl (fun _=>rfl) fun g0 hg=>?_
 refine rn tk 14 rfl ?_;cases hr;exact kr tk (.inr rfl) rfl rfl
theorem zBb(a0:List Str)(a1:List Str)(r:Bool)(hr:ZNa a0 a1=some r):Run Tryz.prog 32 [.l cS a0,.l cS a1] (.bo r):=by
 unfold ZNa at hr;refine rf (fn:=Tryz.f32) ⟨Tryz.func32,rfl,by kernel_rfl⟩ rfl (fun _=>rfl) fun g0 hg=>?_
 refine rn tk 9 rfl<|wn tk rfl rfl rfl<|rn tk 1 rfl<|wn tk rfl rfl rfl<|rn tk 3 rfl<|ac 10 hr rfl (fun c1 hr=>?_) (fun c1 hr=>?_)
 .refine rn tk 7 rfl ?_;cases hr;exact kr tk (.inr rfl) rfl rfl
 refine rn tk 9 rfl<|al2 hr (fun s2=>[(0,.l cS a0),(1,.l cS a1),(5,.i s2)]) (fun s2=>[]) (.exit 0) (fun b3=>[]) (fun b3=>[]) .ret (fun b4=>[(4,.bo b4)]) (fun b4=>[]) rfl rfl (fun s2 x6 hr=>?_) (fun b3 hr=>?_) (fun b4 hr=>?_)
 .unfold jca at hr;refine rn tk 5 rfl<|wn tk rfl rfl rfl<|rn tk 3 rfl<|ac 14 hr rfl (fun c7 hr=>?_) (fun c7 hr=>?_)
  .refine rn tk 5 rfl ?_;obtain ⟨v8,h9,hr⟩:=zaa hr;obtain ⟨v10,h11,hr⟩:=zaa hr;refine dr 8 [(24,.s v10),(23,.ep [pS v10]),(22,.i s2),(21,.l cS a1),(20,.s v8),(19,.ep [pS v8]),(18,.i s2),(17,.l cS a0)] mixed (by kernel_rfl) rfl rfl (pq tk rfl (.plain rfl) (pq tk rfl (.plain rfl) (.run (.plain rfl) (z2a (wTa (f:=cS) rfl rfl vJa zHa rfl h9)) (pq tk rfl (.plain rfl) (pq tk rfl (.plain rfl) (pq tk rfl (.plain rfl) (.run (.plain rfl) (z2a (wTa (f:=cS) rfl rfl vJa zHa rfl h11)) (pq tk rfl (.plain rfl) .nil)))))))) rfl<|rn tk 3 rfl<|ac 25 hr rfl (fun c12 hr=>?_) (fun c12 hr=>?_)
   .refine rn tk 8 rfl ?_;cases hr;exact ato rfl rfl rfl rfl
   refine rn tk 8 rfl ?_;cases hr;exact atc rfl rfl
  refine rn tk 2 rfl ?_;cases hr;exact ato rfl rfl rfl rfl
 .refine rn tk 8 rfl ?_;cases hr;exact kr tk (.inr rfl) rfl rfl
 refine rn tk 2 rfl ?_;cases hr;exact kr tk (.inr rfl) rfl rfl
theorem zza(a0:zra)(r:Bool)(hr:zKa a0=some r):Run Tryz.prog 29 [.agg [.i a0.Code,.i a0.Index]] (.bo r):=by
 unfold zKa at hr;refine rf (fn:=Tryz.f29) ⟨Tryz.func29,rfl,by kernel_rfl⟩ rfl (fun _=>rfl) fun g0 hg=>?_
 refine rn tk 15 rfl ?_;cases hr;exact kr tk (.inr rfl) rfl rfl
theorem zja(a0:Int)(a1:Int)(r:zra)(hr:zta a0 a1=some r):Run Tryz.prog 35 [.i a0,.i a1] (.agg [.i r.Code,.i r.Index]):=by
 unfold zta at hr;refine rf (fn:=Tryz.f35) ⟨Tryz.func35,rfl,by kernel_rfl⟩ rfl (fun _=>rfl) fun g0 hg=>?_
 refine rn tk 14 rfl ?_;cases hr;exact kr tk (.inr rfl) rfl rfl
theorem zGa(r:zra)(hr:kha=some r):Run Tryz.prog 30 [] (.agg [.i r.Code,.i r.Index]):=by
 unfold kha at hr;refine rf (fn:=Tryz.f30) ⟨Tryz.func30,rfl,by kernel_rfl⟩ rfl (fun _=>rfl) fun g0 hg=>?_
 refine rn tk 12 rfl ?_;cases hr;exact kr tk (.inr rfl) rfl rfl
theorem Zua(a0:UInt8)(r:Bool)(hr:vRa a0=some r):Run Tryz.prog 84 [.u8 a0] (.bo r):=by
 unfold vRa at hr;refine rf (fn:=Tryz.f84) ⟨Tryz.func84,rfl,by kernel_rfl⟩ rfl (fun _=>rfl) fun g0 hg=>?_
 refine rn tk 5 rfl<|jb hr (fun j1=>[(2,.bo j1)]) (fun j1=>[]) (fun j1 hr=>?_) (fun j1 hr=>?_)
 .refine rn tk 4 rfl<|bs 5 hr rfl (fun c2 hr=>?_) (fun c2 hr=>?_)
  .refine rn tk 4 rfl<|bs 9 hr rfl (fun c3 hr=>?_) (fun c3 hr=>?_)
   .refine rn tk 17 rfl ?_;cases hr;exact jn _ rfl rfl rfl
   refine rn tk 3 rfl<|bs 12 hr rfl (fun c4 hr=>?_) (fun c4 hr=>?_)
   .refine rn tk 5 rfl<|bs 17 hr rfl (fun c5 hr=>?_) (fun c5 hr=>?_)
    .refine rn tk 9 rfl ?_;cases hr;exact jn _ rfl rfl rfl
    refine rn tk 3 rfl<|bs 20 hr rfl (fun c6 hr=>?_) (fun c6 hr=>?_)
    .refine rn tk 6 rfl ?_;cases hr;exact jn _ rfl rfl rfl
    refine rn tk 6 rfl ?_;cases hr;exact jn _ rfl rfl rfl
   refine rn tk 8 rfl<|bs 20 hr rfl (fun c7 hr=>?_) (fun c7 hr=>?_)
   .refine rn tk 6 rfl ?_;cases hr;exact jn _ rfl rfl rfl
   refine rn tk 6 rfl ?_;cases hr;exact jn _ rfl rfl rfl
  refine rn tk 7 rfl<|bs 12 hr rfl (fun c8 hr=>?_) (fun c8 hr=>?_)
  .refine rn tk 5 rfl<|bs 17 hr rfl (fun c9 hr=>?_) (fun c9 hr=>?_)
   .refine rn tk 9 rfl ?_;cases hr;exact jn _ rfl rfl rfl
   refine rn tk 3 rfl<|bs 20 hr rfl (fun c10 hr=>?_) (fun c10 hr=>?_)
   .refine rn tk 6 rfl ?_;cases hr;exact jn _ rfl rfl rfl
   refine rn tk 6 rfl ?_;cases hr;exact jn _ rfl rfl rfl
  refine rn tk 8 rfl<|bs 20 hr rfl (fun c11 hr=>?_) (fun c11 hr=>?_)
  .refine rn tk 6 rfl ?_;cases hr;exact jn _ rfl rfl rfl
  refine rn tk 6 rfl ?_;cases hr;exact jn _ rfl rfl rfl
 refine rn tk 1 rfl ?_;cases hr;exact kr tk (.inr rfl) rfl rfl
theorem jCa(a0:Str)(r:Bool)(hr:wva a0=some r):Run Tryz.prog 56 [.s a0] (.bo r):=by
 unfold wva at hr;refine rf (fn:=Tryz.f56) ⟨Tryz.func56,rfl,by kernel_rfl⟩ rfl (fun _=>rfl) fun g0 hg=>?_
 refine rn tk 5 rfl<|jb hr (fun j1=>[(2,.bo j1)]) (fun j1=>[]) (fun j1 hr=>?_) (fun j1 hr=>?_)
 .refine rn tk 4 rfl<|bs 5 hr rfl (fun c2 hr=>?_) (fun c2 hr=>?_)
  .refine rn tk 5 rfl<|bs 10 hr rfl (fun c3 hr=>?_) (fun c3 hr=>?_)
   .refine rn tk 1 rfl<|ug rfl rfl rfl<|ct hr (fun j4=>[(10,.bo true),(12,.bo j4)]) (fun j4=>[]) (fun j4 hr jump4=>?_) (fun j4 hr=>?_)
    .refine il (fn:=Tryz.f82) (args:=[.s a0,.fn (.func 83) [] []]) 400000 499999 [(10,.bo true)] rfl ⟨Tryz.func82,rfl,by kernel_rfl⟩ rfl rfl rfl fun T4 ds4=>?_
     refine rn tk 14 rfl<|al2 hr (fun s5=>[(0,.s a0),(1,.fn (.func 83) [] []),(7,.i ((a0.length:Int))),(8,.i s5)]) (fun s5=>[(499999,.sus g0.w.heap.size ds4),(400010,.hold (.bo true) (T4.getD 10 undef))]) (.exit 0) (fun b6=>[]) (fun b6=>[(499999,.sus g0.w.heap.size ds4),(400010,.hold (.bo true) (T4.getD 10 undef))]) .ret (fun b7=>[(4,.bo false)]) (fun b7=>[(499999,.sus g0.w.heap.size ds4),(400010,.hold (.bo true) (T4.getD 10 undef))]) rfl rfl (fun s5 x9 hr=>?_) (fun b6 hr=>?_) (fun b7 hr=>?_)
     .unfold v0a at hr;refine rn tk 6 rfl<|ac 9 hr rfl (fun c10 hr=>?_) (fun c10 hr=>?_)
      .refine rn tk 15 rfl ?_;obtain ⟨v11,h12,hr⟩:=zaa hr;refine ws tk h12 rfl rfl rfl rfl<|il (fn:=Tryz.f83) (args:=[.u8 v11]) 600000 699999 [(0,.s a0),(1,.fn (.func 83) [] []),(7,.i ((a0.length:Int))),(8,.i s5)] rfl ⟨Tryz.func83,rfl,by kernel_rfl⟩ rfl rfl rfl fun T6 ds6=>?_
       refine rn tk 5 rfl<|jb hr (fun j13=>[(2,.bo j13)]) (fun j13=>[(699999,.sus g0.w.heap.size ds6),(600000,.hold (.s a0) (T6.getD 0 undef)),(600001,.hold (.fn (.func 83) [] []) (T6.getD 1 undef)),(600007,.hold (.i ((a0.length:Int))) (T6.getD 7 undef)),(600008,.hold (.i s5) (T6.getD 8 undef)),(499999,.sus g0.w.heap.size ds4),(400010,.hold (.bo true) (T4.getD 10 undef))]) (fun j13 hr=>?_) (fun j13 hr=>?_)
       .refine rn tk 2 rfl ?_;obtain ⟨v14,h15,hr⟩:=zaa hr;refine cl (Zua _ _ h15) rfl rfl<|rn tk 1 rfl<|bs 5 hr rfl (fun c16 hr=>?_) (fun c16 hr=>?_)
        .refine rn tk 13 rfl ?_;cases hr;exact jn _ rfl rfl rfl
        refine rn tk 4 rfl<|bs 9 hr rfl (fun c17 hr=>?_) (fun c17 hr=>?_)
        .refine rn tk 9 rfl ?_;cases hr;exact jn _ rfl rfl rfl
        refine rn tk 4 rfl<|bs 13 hr rfl (fun c18 hr=>?_) (fun c18 hr=>?_)
        .refine rn tk 5 rfl ?_;cases hr;exact jn _ rfl rfl rfl
        refine rn tk 5 rfl ?_;cases hr;exact jn _ rfl rfl rfl
       refine rn tk 1 rfl ?_;refine ie tk [.bo j13] [(0,.s a0),(1,.fn (.func 83) [] []),(7,.i ((a0.length:Int))),(8,.i s5)] [(499999,.sus g0.w.heap.size ds4),(400010,.hold (.bo true) (T4.getD 10 undef))] (.inr rfl) rfl rfl rfl rfl (hO ?_);refine rn tk 3 rfl<|ac 16 hr rfl (fun c19 hr=>?_) (fun c19 hr=>?_)
       .refine rn tk 8 rfl ?_;cases hr;exact ato rfl rfl rfl rfl
       refine rn tk 7 rfl ?_;cases hr;exact atc rfl rfl
      refine rn tk 2 rfl ?_;cases hr;exact ato rfl rfl rfl rfl
     .refine rn tk 8 rfl ?_;refine ie tk [.bo true] [(10,.bo true)] [] (.inr rfl) rfl rfl rfl rfl ?_;cases hr;exact jump4 _ _ rfl rfl
     refine rn tk 2 rfl ?_;refine ie tk [.bo false] [(10,.bo true)] [] (.inr rfl) rfl rfl rfl rfl ?_;cases hr;exact jump4 _ _ rfl rfl
    refine rn tk 3 rfl ?_;cases hr;exact jn _ rfl rfl rfl
   refine rn tk 5 rfl ?_;cases hr;exact jn _ rfl rfl rfl
  refine rn tk 10 rfl ?_;cases hr;exact jn _ rfl rfl rfl
 refine rn tk 1 rfl ?_;cases hr;exact kr tk (.inr rfl) rfl rfl
theorem yaa(a0:Str)(a1:Int)(a2:Int)(r:zra)(hr:kTa a0 a1 a2=some r):Run Tryz.prog 28 [.s a0,.i a1,.i a2] (.agg [.i r.Code,.i r.Index]):=by
 unfold kTa at hr;refine rf (fn:=Tryz.f28) ⟨Tryz.func28,rfl,by kernel_rfl⟩ rfl (fun _=>rfl) fun g0 hg=>?_
 refine rn tk 7 rfl<|jb hr (fun j1=>[(1,.i a1),(2,.i a2),(6,.ptr 6 0),(7,.bo j1)]) (fun j1=>[(6,.cells [.i 0,.i 0])]) (fun j1 hr=>?_) (fun j1 hr=>?_)
 .refine rn tk 2 rfl ?_;obtain ⟨v2,h3,hr⟩:=zaa hr;refine cl (jCa _ _ h3) rfl rfl<|rn tk 2 rfl<|bs 11 hr rfl (fun c4 hr=>?_) (fun c4 hr=>?_)
  .refine rn tk 6 rfl ?_;cases hr;exact jn _ rfl rfl rfl
  refine rn tk 6 rfl ?_;cases hr;exact jn _ rfl rfl rfl
 refine ac 7 hr rfl (fun c5 hr=>?_) (fun c5 hr=>?_)
 .refine rn tk 2 rfl ?_;obtain ⟨v6,h7,hr⟩:=zaa hr;refine cl (zja _ _ _ h7) rfl rfl<|rn tk 6 rfl ?_;cases hr;exact kr tk (.inr rfl) rfl rfl
 refine jb hr (fun j8=>[(2,.i a2),(6,.ptr 6 0),(17,.bo j8)]) (fun j8=>[(6,.cells [.i 0,.i 0])]) (fun j8 hr=>?_) (fun j8 hr=>?_)
 .refine rn tk 4 rfl<|bs 20 hr rfl (fun c9 hr=>?_) (fun c9 hr=>?_)
  .refine rn tk 5 rfl ?_;cases hr;exact jn _ rfl rfl rfl
  refine rn tk 5 rfl ?_;cases hr;exact jn _ rfl rfl rfl
 refine ac 17 hr rfl (fun c10 hr=>?_) (fun c10 hr=>?_)
 .refine rn tk 2 rfl ?_;obtain ⟨v11,h12,hr⟩:=zaa hr;refine cl (zja _ _ _ h12) rfl rfl<|rn tk 6 rfl ?_;cases hr;exact kr tk (.inr rfl) rfl rfl
 refine jb hr (fun j13=>[(6,.ptr 6 0),(25,.bo j13)]) (fun j13=>[(6,.cells [.i 0,.i 0])]) (fun j13 hr=>?_) (fun j13 hr=>?_)
 .refine rn tk 4 rfl<|bs 28 hr rfl (fun c14 hr=>?_) (fun c14 hr=>?_)
  .refine rn tk 5 rfl ?_;cases hr;exact jn _ rfl rfl rfl
  refine rn tk 5 rfl ?_;cases hr;exact jn _ rfl rfl rfl
 refine ac 25 hr rfl (fun c15 hr=>?_) (fun c15 hr=>?_)
 .refine rn tk 2 rfl ?_;obtain ⟨v16,h17,hr⟩:=zaa hr;refine cl (zja _ _ _ h17) rfl rfl<|rn tk 6 rfl ?_;cases hr;exact kr tk (.inr rfl) rfl rfl
 refine rn tk 5 rfl ?_;obtain ⟨v18,h19,hr⟩:=zaa hr;refine cl (zGa _ h19) rfl rfl<|rn tk 4 rfl ?_;cases hr;exact kr tk (.inr rfl) rfl rfl
end Go.Proofs.YtmmjihadplknjaaGreatDoor
