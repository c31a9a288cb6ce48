/- Part 4 of the proof of the law WireCutsDoNotMatter: what it needs. -/
import Derived.Test.YtjjgjalfelnclaaGreatDoorKWireCutsDoNotMatter3
import Derived.Shelf.Strings.SlTrimAscii
set_option linter.unusedVariables false
set_option linter.unusedSimpArgs false
set_option maxRecDepth 100000
set_option maxHeartbeats 40000000
namespace Go.Proofs.YtjjgjalfelnclaaGreatDoor
open Go.RowKit
def dot0:Str->Bool
 | c::_=>c==46
 | []=>false
def Kma(l:Str):Str:=if dot0 l then 46::l else l
def yca(ls:List Str):Str:=ls.flatMap fun x=>Kma x++ [13,10]
theorem k5b(l:Str):qya l [46]=some (dot0 l):=by
 unfold qya;cases l with
 | nil=>rfl
 | cons c r=>
  have:cut (c::r) 0 ((([46]:List UInt8).length:Nat):Int)=some [c]:=by
   rw[KNa (by simp)];rfl
  simp only[this,vua,jAc];simp[dot0];rw[Bool.cond_eq_ite];simp;omega
theorem Q4a(l:Str)(hl:l.length<=9223372036854775807):zZa l [13,10]=some (decide ([13,10] <:+l)):=by
 unfold zZa;by_cases h:2<=l.length
 .have e:w64 ((l.length:Int) - ((([13,10]:List UInt8).length:Nat):Int))=((l.length - 2:Nat):Int):=K3b _ _ h hl;rw[e,jba (by omega)];have:decide (((([13,10]:List UInt8).length:Nat):Int)<=(l.length:Int))=true:=by simp;omega
  simp only[this,cond_true,jAc,vua]
  congr 1
  rw[jAo,decide_eq_true_iff,List.suffix_iff_eq_drop,beq_iff_eq];exact eq_comm
 have:decide (((([13,10]:List UInt8).length:Nat):Int)<=(l.length:Int))=false:=by simp;omega
 simp only[this,cond_false,jAc]
 congr 1
 symm
 simp only[decide_eq_false_iff_not];intro hs;have:=hs.length_le;simp at this;omega
theorem zMb(l cur:List UInt8):(fl cur l).2=[]↔(l=[]/\cur=[])∨ [13,10] <:+l:=by
 fun_induction fl cur l with
 | case1 cur=>simp
 | case2 cur c=>
  simp;intro h;have:=h.length_le;simp at this
 | case3 cur c d r h ih=>
  obtain ⟨rfl,rfl⟩:=h;simp only[ih,List.suffix_cons_iff];simp
 | case4 cur c d r h ih=>
  rw[ih,List.suffix_cons_iff (a:=c)];simp;intro h1 h2 _;exact absurd ⟨h1.symm,h2.symm⟩ h
theorem zNb(x:Str):(Kma x).length<=x.length+1/\x.length<=(Kma x).length:=by unfold Kma;split <;> simp
theorem jab(ls:List Str):(ls.flatMap fun x=>x++ [13,10]).length>=2 * ls.length:=by
 induction ls with
 | nil=>simp
 | cons x r ih=>simp at ih ⊢;omega
theorem Jga(ls:List Str):(yca ls).length<=(ls.flatMap fun x=>x++ [13,10]).length+ls.length:=by
 induction ls with
 | nil=>simp[yca]
 | cons x r ih=>
  have:=(zNb x).1;unfold yca at ih ⊢;simp at ih ⊢;omega
theorem ZAb(a:List UInt8)(ha:a.length<=12000)(n:Nat):∀(at_:Nat) (out:List UInt8),at_<=a.length->a.length - at_=n->out.length<=2 * at_->
 iter (qXa a) ((at_:Int),out)=some (out++yca (fl [] (a.drop at_)).1):=by
 induction n using Nat.strongRecOn with
 | _ n ih=>
  intro at_ out h1 h2 h3;have hg:=Lib.index_ge (a.drop at_) [13,10];by_cases hi:Lib.index (a.drop at_) [13,10]= -1
  .have hb:qXa a ((at_:Int),out)=some (.out out):=by
    unfold qXa;simp only[jba h1,jAc,qWa];rw[if_pos (by simp;omega)];simp[hi]
   rw[zOa hb];simp[Qpb _ [] hi,yca]
  obtain ⟨k,hk⟩:∃k:Nat,Lib.index (a.drop at_) [13,10]=(k:Int):=⟨(Lib.index (a.drop at_) [13,10]).toNat,by omega⟩;obtain ⟨hk2,hf⟩:=ybb _ [] k hk;simp at hk2;have hlen:(((a.drop at_).take k).length)=k:=by simp;omega
  have hd:=zNb ((a.drop at_).take k);have hb:qXa a ((at_:Int),out)=some (.cont (((at_+k+2:Nat):Int),out++(Kma ((a.drop at_).take k)++ [13,10]))):=by
   unfold qXa;simp only[jba h1,jAc,qWa];rw[if_pos (by simp;omega)];simp (disch:=omega) only[hk,W3a,K2b,yZb,jAc,show ¬((k:Int) < 0) by omega,decide_false,cond_false];rw[show at_+k - at_=k by omega,show at_+(k+2)=at_+k+2 by omega];rw[k5b];unfold Kma;cases dot0 ((a.drop at_).take k) with
   | false=>
    simp only[jAc,cond_false];rw[kRa (by omega)];simp only[jAc];rw[kRa (by simp;omega)];simp
   | true=>
    simp only[jAc,cond_true];rw[kRa (by simp;omega)];simp only[jAc];rw[kRa (by simp;omega)];simp only[jAc];rw[kRa (by simp;omega)];simp
  rw[zYa hb,ih (a.length - (at_+k+2)) (by omega) (at_+k+2) _ (by omega) rfl (by simp;omega),hf];simp[yca,jDk]
theorem zeb(a:List UInt8):wGa a=some (if 12000 < a.length then ([],⟨1, -1⟩) else if (fl [] a).2≠ [] then ([],⟨5, -2⟩) else (yca (fl [] a).1++ [46,13,10],⟨0,0⟩)):=by
 unfold wGa;by_cases h:12000 < a.length
 .have:decide ((12000:Int) < (a.length:Int))=true:=by simp;omega
  simp only[this,cond_true,zka,jAc,if_pos h]
 have:decide ((12000:Int) < (a.length:Int))=false:=by simp;omega
 simp only[this,cond_false,if_neg h];have hs:=fl_size a [];have e:((0:Int),([]:List UInt8))=(((0:Nat):Int),[]):=rfl;have hl:=ZAb a (by omega) _ 0 [] (by omega) rfl (by simp);rw[Q4a _ (by omega),e,hl];have hj:((bif decide ((0:Int) < (a.length:Int)) then (some (decide ([13,10] <:+a))).bind fun v6=>some (!v6) else some false):Option Bool)=some (decide ((fl [] a).2≠ [])):=by
  have:=zMb a [];simp at this;by_cases h0:a=[]
  .simp[h0,fl]
  have h1:0 < a.length:=by cases a with
   | nil=>exact absurd rfl h0
   | cons c r=>simp
  simp[h1,this,h0]
 rw[hj];simp only[jAc];by_cases hr:(fl [] a).2=[]
 .have:=Jga (fl [] a).1;have hjn:=Qqb a [];simp[hr]at hjn;have hjl:=congrArg List.length hjn;simp at hs;rw[hr]at hs;simp[hr,zHa];rw[kRa]
  .simp
  simp at hs ⊢;simp at hjl this;omega
 simp[hr,zka]
def zIa(ls:List Str):Str:=ls.flatMap fun x=>x++ [13,10]
theorem vrb:zIa []=[]:=rfl
theorem ZMa(x:Str)(r:List Str):zIa (x::r)=x++13::10::zIa r:=by simp[zIa]
theorem Jha(x:Str)(r:List Str):(zIa (x::r)).length=x.length+2+(zIa r).length:=by simp[ZMa];omega
theorem V3a(a:List UInt8):zIa (fl [] a).1++(fl [] a).2=a:=Qqb a []
theorem fl_joinN(a:List UInt8):(zIa (fl [] a).1).length+(fl [] a).2.length=a.length:=by
 have:=congrArg List.length (V3a a);simpa only[jAl]using this
theorem YGa{l:List zba}(h:(recF l).Code=0):(∀r∈l,qja r.Address=true/\qBa r.Notify=true)/\(l.map (·.Address)).Nodup:=by
 have hz:zPa (recQ l) 0 l=none:=by
  unfold recF at h;cases hf:zPa (recQ l) 0 l with
  | none=>rfl
  | some f=>
   exfalso;rw[hf]at h;obtain ⟨i,x,hx,hq⟩:=jDa hf;unfold recQ at hq;split at hq
   .cases hq;simp at h
   split at hq
   .cases hq;simp at h
   split at hq
   .cases hq;simp at h
   cases hq
 rw[qia]at hz;have key:∀(i:Nat) r,l[i]? =some r->qja r.Address=true/\qBa r.Notify=true/\(l.take i).any (fun x=>x.Address==r.Address)=false:=by
  intro i r hr;have:=hz i r hr;rw[jCs]at this;unfold recQ at this;cases h1:qja r.Address with
  | false=>rw[h1]at this;simp at this
  | true=>
   cases h2:qBa r.Notify with
   | false=>rw[h1,h2]at this;simp at this
   | true=>
    cases h3:(l.take i).any (fun x=>x.Address==r.Address) with
    | true=>rw[h1,h2,h3]at this;simp at this
    | false=>exact ⟨rfl,rfl,rfl⟩
 refine ⟨fun r hr=>?_,?_⟩
 .obtain ⟨i,hi⟩:=List.getElem?_of_mem hr;exact ⟨(key i r hi).1,(key i r hi).2.1⟩
 rw[List.Nodup,List.pairwise_iff_getElem];intro i j hi hj hij;simp only[jBd]at hi hj;simp only[List.getElem_map];have h3:=(key j l[j] (jAj hj)).2.2;rw[jCj]at h3;have:=h3 l[i] (jAi (i:=i) (by rw[jBc hij];exact jAj hi));simpa using this
theorem recF_of{l:List zba}(h:∀r∈l,qja r.Address=true/\qBa r.Notify=true)(hnd:(l.map (·.Address)).Nodup):recF l=⟨0,0⟩:=by
 unfold recF;have:zPa (recQ l) 0 l=none:=by
  rw[qia];intro i r hr;obtain ⟨ha,hn⟩:=h r (jAi hr);have hu:(l.take (0+i)).any (fun x=>x.Address==r.Address)=false:=by
   rw[jCs,jCj];intro y hy;obtain ⟨j,hj⟩:=List.getElem?_of_mem hy;have hji:j < i:=by have:=(jAd.1 hj).1;simp at this;omega
   rw[jBc hji]at hj;intro hc;have hc:y.Address=r.Address:=by simpa using hc
   have hlt:=kla hr;have hltj:=kla hj;rw[List.Nodup,List.pairwise_iff_getElem]at hnd;refine hnd j i (by simpa using hltj) (by simpa using hlt) hji ?_;simp only[List.getElem_map];rw[(jAd.1 hj).2,(jAd.1 hr).2,hc]
  unfold recQ;rw[ha,hn,hu];rfl
 rw[this];rfl
def rawP(m:zta):Bool:= !decide ([13,10] <:+zia m)
theorem vsb(m:zta):2<=(zia m).length:=by
 unfold zia;simp;omega
abbrev Talk:=z9a
theorem msgF_ok{m:zta}(h:(msgF m).Code=0):(∀f∈m.Fields,Z7a f=0)/\m.Fields.length<=60/\(zia m).length<=12000:=by
 have hh:=Qva _ (vmb h);refine ⟨hh.2.2,by omega,?_⟩;unfold msgF at h;rw[if_neg (by simp[vmb h])]at h;split at h
 .exact absurd h (by decide)
 omega
theorem WJa{m:zua}(h:(QMa m).Code=0):(envF m.Envelope).Code=0/\(msgF m.Message).Code=0:=vlb h
theorem rec_inv'{l:List zba}(h:(recF l).Code=0):∀r∈l,qja r.Address=true/\qBa r.Notify=true:=(YGa h).1
def vtb:zfa:=⟨8,[],[],0,0,false⟩
def Jia:zfa:=⟨4,[],[],0,0,false⟩
def Jja(n:Str):zfa:=⟨1,n,[],0,0,false⟩
def Yia(f:Str)(n:Nat):zfa:=⟨2,[],f,n,0,false⟩
def Voa(r:zba):zfa:=⟨3,[],r.Address,0,r.Notify,false⟩
def Q5a(n:Nat):zfa:=⟨5,[],[],n,0,true⟩
theorem ycb:wTa vtb:=⟨by decide,by decide,by decide,fun h=>h.elim (fun h=>absurd h (by decide)) (fun h=>absurd h.1 (by decide)),by decide,by decide⟩
theorem Jka:wTa Jia:=⟨by decide,by decide,by decide,fun h=>h.elim (fun h=>absurd h (by decide)) (fun h=>absurd h.1 (by decide)),by decide,by decide⟩
theorem k6b{n:Str}(h:v3a n=true):wTa (Jja n):=⟨⟨jDg 1,show (1:Int)<=8 by decide⟩,rfl,fun _=>h,fun h=>h.elim (fun h=>absurd h (show ¬(1:Int)=3 by decide)) (fun h=>absurd h.1 (show ¬(1:Int)=2 by decide)),⟨jDg 0,show (0:Int)<=1000000 by decide⟩,⟨jDg 0,show (0:Int)<=7 by decide⟩⟩
theorem ydb{f:Str}{n:Nat}(h:f=[]∨qja f=true)(hn:n<=1000000):wTa (Yia f n):=
 ⟨⟨show (1:Int)<=2 by decide,show (2:Int)<=8 by decide⟩,rfl,fun h=>absurd h (show ¬(2:Int)=1 by decide),fun hv=>h.elim (fun h0=>hv.elim (fun hv=>absurd hv (show ¬(2:Int)=3 by decide)) fun hv=>absurd h0 hv.2) id,⟨show (0:Int)<=(n:Int) by omega,show (n:Int)<=1000000 by omega⟩,⟨jDg 0,show (0:Int)<=7 by decide⟩⟩
theorem k7b{r:zba}(h:qja r.Address=true/\qBa r.Notify=true):wTa (Voa r):=by
 have h2:=h.2;unfold qBa at h2;simp only[jAh,decide_eq_true_eq]at h2;exact ⟨⟨show (1:Int)<=3 by decide,show (3:Int)<=8 by decide⟩,rfl,fun h=>absurd h (show ¬(3:Int)=1 by decide),fun _=>h.1,⟨jDg 0,show (0:Int)<=1000000 by decide⟩,h2⟩
theorem Qwa{n:Nat}(hn:n<=1000000):wTa (Q5a n):=
 ⟨⟨show (1:Int)<=5 by decide,show (5:Int)<=8 by decide⟩,rfl,fun h=>absurd h (show ¬(5:Int)=1 by decide),fun h=>h.elim (fun h=>absurd h (show ¬(5:Int)=3 by decide)) (fun h=>absurd h.1 (show ¬(5:Int)=2 by decide)),⟨show (0:Int)<=(n:Int) by omega,show (n:Int)<=1000000 by omega⟩,⟨jDg 0,show (0:Int)<=7 by decide⟩⟩
theorem jbb{c:zfa}(ok:wTa c):cmdF c=⟨0,0⟩:=by
 have h1:(decide (c.Verb < 1) || decide (8 < c.Verb))=false:=by
  have:=ok.verb;rw[decide_eq_false (by omega),decide_eq_false (by omega)];rfl
 have h3:(c.Verb==1 && !v3a c.Name)=false:=by
  by_cases h:c.Verb=1
  .rw[ok.name h];simp
  rw[beq_eq_false_iff_ne.2 h];rfl
 have h4:((c.Verb==3 || (c.Verb==2 && c.Address !=([]:Str))) && !qja c.Address)=false:=by
  by_cases h:c.Verb=3∨(c.Verb=2/\c.Address≠ [])
  .rw[ok.addr h];simp
  have h5:¬c.Verb=3:=fun e=>h (.inl e)
  rw[beq_eq_false_iff_ne.2 h5];by_cases h2:c.Verb=2
  .have:c.Address=[]:=Classical.byContradiction fun e=>h (.inr ⟨h2,e⟩)
   rw[this];simp
  rw[beq_eq_false_iff_ne.2 h2];rfl
 have h5:(decide (c.Size < 0) || decide (1000000 < c.Size))=false:=by
  have:=ok.size;rw[decide_eq_false (by omega),decide_eq_false (by omega)];rfl
 have h6:qBa c.Notify=true:=by
  have:=ok.note;unfold qBa;rw[decide_eq_true this.1,decide_eq_true this.2];rfl
 unfold cmdF;rw[h1,ok.used,h3,h4,h5,h6];rfl
theorem dec7{n:Int}(h:0<=n/\n<=1000000):(Lib.decDigits n.toNat).length<=7:=yGa 6 n.toNat (by omega)
theorem Qxa{c:zfa}(ok:wTa c):(cmdT c).length<=400:=by
 have hwl:=(y7b ok.verb).2;have hal:=VZa ok;have hd:=dec7 ok.size;have hc:=VYa ok.note;have hn:c.Verb=1->c.Name.length<=60:=fun h=>(KQa (ok.name h)).2
 unfold cmdT ZJa argT;by_cases h1:c.Verb=1
 .have:=hn h1;rw[if_pos h1];simp;omega
 rw[if_neg h1];by_cases h2:c.Verb=2
 .rw[if_pos h2];by_cases hs:c.Size=0
  .rw[if_pos hs];simp;omega
  rw[if_neg hs];simp;omega
 rw[if_neg h2];by_cases h3:c.Verb=3
 .rw[if_pos h3];by_cases hs:c.Notify=1
  .rw[if_pos hs];simp;omega
  rw[if_neg hs];simp;omega
 rw[if_neg h3];by_cases h5:c.Verb=5
 .rw[if_pos h5];cases c.Last <;> simp <;> omega
 rw[if_neg h5];simp;omega
def Z9a(out:List UInt8)(c:zfa):List UInt8:=out++cmdT c++ [13,10]
def ses(t:Talk)(b:List UInt8)(r:Bool):zca:=⟨t.C,b,r,t.Out⟩
theorem Qrb{c:zfa}(ok:wTa c)(hn:c.Name.length<=1048576):k1b c:=by
 have hal:=VZa ok;exact ⟨hn,by omega⟩
theorem WKa(t:Talk)(b:List UInt8)(r:Bool)(c:zfa)(ok:wTa c)(hn:c.Name.length<=1048576)(ho:t.Out.length<=1000000000000):zza (ses t b r) c=some (ses ⟨t.C,Z9a t.Out c⟩ b r):=by
 have hl:=Qxa ok;unfold zza ses;rw[Yha c (Qrb ok hn),jbb ok];simp only[jAc,bne_self_eq_false,cond_false];rw[kRa (by omega)];simp only[jAc];rw[kRa (by simp;omega)];rfl
structure Good (c:zna):Prop where
 name:v3a c.Name=true
 mail:(QMa c.Mail).Code=0
structure GoodM (m:zua):Prop where
 frm:m.Envelope.From=[]∨qja m.Envelope.From=true
 many:1<=m.Envelope.To.length/\m.Envelope.To.length<=60
 tos:∀r∈m.Envelope.To,qja r.Address=true/\qBa r.Notify=true
 codes:∀f∈m.Message.Fields,Z7a f=0
 many60:m.Message.Fields.length<=60
 big:(zia m.Message).length<=12000
 body:m.Message.Body.length<=12000
theorem k1a{m:zua}(h:(QMa m).Code=0):GoodM m:=by
 obtain ⟨he,hm⟩:=WJa h;obtain ⟨m1,m2,m3⟩:=msgF_ok hm;have h' :=he;unfold envF at h';split at h'
 .exact absurd h' (by decide)
 rename_i hfr;split at h'
 .exact absurd h' (by decide)
 rename_i hto;split at h'
 .exact absurd h' (by decide)
 simp only[jBs,decide_eq_true_eq]at hto;refine ⟨?_,by omega,rec_inv' h',m1,m2,m3,?_⟩
 .by_cases h0:m.Envelope.From=[]
  .exact .inl h0
  right;unfold K6b at hfr;have:(m.Envelope.From !=([]:Str))=true:=by simpa using h0
  rw[this]at hfr;simpa using hfr
 unfold zia at m3;simp only[jAl]at m3;omega
def askP(t:Talk)(k:Nat):Talk:=
 if k=1 then ⟨t.C,Z9a t.Out (Jja t.C.Name)⟩ else if k=2 then ⟨t.C,Z9a t.Out (Yia t.C.Mail.Envelope.From (zia t.C.Mail.Message).length)⟩ else
 match t.C.Mail.Envelope.To[k - 3]? with
 | some r=>⟨t.C,Z9a t.Out (Voa r)⟩
 | none=>if rawP t.C.Mail.Message=true then ⟨{t.C with Whole:=true},Z9a t.Out (Q5a (zia t.C.Mail.Message).length)++zia t.C.Mail.Message⟩ else ⟨t.C,Z9a t.Out Jia⟩
theorem Qsb(t:Talk)(k:Nat):(askP t k).C={t.C with Whole:=(askP t k).C.Whole}:=by
 unfold askP;split
 .rfl
 split
 .rfl
 split
 .rfl
 split <;> rfl
theorem jKa{o:List UInt8}{c:zfa}(ok:wTa c):(Z9a o c).length<=o.length+402:=by
 have:=Qxa ok;unfold Z9a;simp;omega
theorem yeb{t:Talk}(g:Good t.C)(k:Nat):(askP t k).Out.length<=t.Out.length+12402:=by
 have gm:=k1a g.mail;have hb:=gm.big;unfold askP;split
 .have:=jKa (o:=t.Out) (k6b g.name);dsimp only;omega
 split
 .have:=jKa (o:=t.Out) (ydb (n:=(zia t.C.Mail.Message).length) gm.frm (by omega));dsimp only;omega
 split
 .rename_i r hr;have:=jKa (o:=t.Out) (k7b (gm.tos r (jAi hr)));dsimp only;omega
 split
 .have:=jKa (o:=t.Out) (Qwa (n:=(zia t.C.Mail.Message).length) (by omega));simp only[jAl];omega
 have:=jKa (o:=t.Out) Jka;dsimp only;omega
theorem cmd_eq(t:Talk)(g:Good t.C)(ho:t.Out.length<=100000000000)(k:Nat)(h1:1<=k)(h2:k<=t.C.Mail.Envelope.To.length+3):
 zJa (ses t (zia t.C.Mail.Message) (rawP t.C.Mail.Message)) (k:Int)=some (ses (askP t k) (zia t.C.Mail.Message) (rawP t.C.Mail.Message)):=by
 have gm:=k1a g.mail;have hb:=gm.big;have hm:=gm.many;have hn:=KQa g.name;unfold zJa askP;by_cases k1:k=1
 .subst k1;have hs:=WKa t (zia t.C.Mail.Message) (rawP t.C.Mail.Message) _ (k6b g.name) (by show t.C.Name.length<=_;omega) (by omega);rw[if_pos rfl];show ((zza (ses t (zia t.C.Mail.Message) (rawP t.C.Mail.Message)) (Jja t.C.Name)).bind fun v=>some v)=_;rw[hs];rfl
 by_cases k2:k=2
 .subst k2;have hs:=WKa t (zia t.C.Mail.Message) (rawP t.C.Mail.Message) _ (ydb (n:=(zia t.C.Mail.Message).length) gm.frm (by omega)) (by show ([]:Str).length<=_;simp) (by omega);rw[if_neg (by decide),if_pos rfl];show ((zza (ses t (zia t.C.Mail.Message) (rawP t.C.Mail.Message)) (Yia t.C.Mail.Envelope.From (zia t.C.Mail.Message).length)).bind fun v=>some v)=_;rw[hs];rfl
 have e1:((k:Int)==1)=false:=by rw[beq_eq_false_iff_ne];omega
 have e2:((k:Int)==2)=false:=by rw[beq_eq_false_iff_ne];omega
 have ek:w64 ((k:Int) - 3)=((k - 3:Nat):Int):=by rw[qwa (by omega) (by omega)];omega
 have en:w64 ((t.C.Mail.Envelope.To.length:Int)+3)=((t.C.Mail.Envelope.To.length+3:Nat):Int):=by rw[qwa (by omega) (by omega)];omega
 rw[e1,e2,if_neg k1,if_neg k2];unfold kaa;simp only[cond_false,jAc];show (bif decide ((k:Int) < w64 ((t.C.Mail.Envelope.To.length:Int)+3)) then (idx t.C.Mail.Envelope.To (w64 ((k:Int) - 3))).bind fun v10=>(zza (ses t (zia t.C.Mail.Message) (rawP t.C.Mail.Message)) (Voa v10)).bind fun v12=>some v12 else _)=_;rw[en,ek,Zma];by_cases hk:k < t.C.Mail.Envelope.To.length+3
 .rw[decide_eq_true (by omega),jAj (by omega)];have hr:=gm.tos _ (jDj (show k - 3 < t.C.Mail.Envelope.To.length by omega));simp only[cond_true,jAc,WKa t _ _ _ (k7b hr) (by show ([]:Str).length<=_;simp) (by omega)]
 rw[decide_eq_false (by omega),jBr (by omega)];dsimp only[cond_false];cases hr:rawP t.C.Mail.Message with
 | true=>
  have hs:=WKa t (zia t.C.Mail.Message) true _ (Qwa (n:=(zia t.C.Mail.Message).length) (by omega)) (by show ([]:Str).length<=_;simp) (by omega);have hl:=jKa (o:=t.Out) (Qwa (n:=(zia t.C.Mail.Message).length) (by omega));rw[if_pos rfl];show ((zza (ses t (zia t.C.Mail.Message) true) (Q5a (zia t.C.Mail.Message).length)).bind _)=_;rw[hs];simp only[jAc];unfold ses;dsimp only;rw[kRa (by omega)];rfl
 | false=>
  rw[if_neg (by decide)];show ((zza (ses t (zia t.C.Mail.Message) false) Jia).bind fun v=>some v)=_;rw[WKa t _ _ _ Jka (by show ([]:Str).length<=_;simp) (by omega)];rfl
def jia:Nat->Nat->Talk->Talk
 | 0,_,t=>t
 | m+1,k,t=>jia m (k+1) (askP t k)
theorem jcb{t:Talk}(g:Good t.C)(k:Nat):Good (askP t k).C:=by rw[Qsb];exact ⟨g.name,g.mail⟩
theorem YHa(t:Talk)(k:Nat):(askP t k).C.Mail=t.C.Mail:=by rw[Qsb]
theorem asks_C:∀(m k:Nat) (t:Talk),(jia m k t).C={t.C with Whole:=(jia m k t).C.Whole}
 | 0,_,_=>rfl
 | m+1,k,t=>by
  have h:=asks_C m (k+1) (askP t k);have h2:=Qsb t k;show (jia m (k+1) (askP t k)).C=_;rw[h,h2];rfl
def bnd:Nat->Nat
 | 0=>0
 | m+1=>bnd m+12402
theorem k8b(m:Nat):bnd (m+1)=bnd m+12402:=rfl
theorem bnd_le:∀m d:Nat,bnd m<=bnd (m+d)
 | m,0=>jAn _
 | m,d+1=>by have:=bnd_le m d;have h:=k8b (m+d);rw[<-jDk];omega
theorem bnd_64{m:Nat}(h:m<=64):bnd m<=800000:=by
 have h1:=bnd_le m (64 - m);rw[show m+(64 - m)=64 by omega]at h1;have h2:bnd 64<=800000:=by decide
 omega
theorem jdb:∀(m k:Nat) (t:Talk),Good t.C->(jia m k t).Out.length<=t.Out.length+bnd m
 | 0,_,t,_=>by show t.Out.length<=_;omega
 | m+1,k,t,g=>by
  have h:=jdb m (k+1) (askP t k) (jcb g k);have h2:=yeb g k;have h3:=k8b m;show (jia m (k+1) (askP t k)).Out.length<=_;omega
theorem Jla(j:Int × Bool):∀(m k:Nat) (t:Talk),Good t.C->t.Out.length+bnd m<=95000000000->1<=k->k+m=t.C.Mail.Envelope.To.length+4->j.1=((t.C.Mail.Envelope.To.length+3:Nat):Int)->
 iter (zTa j) ((k:Int),ses t (zia t.C.Mail.Message) (rawP t.C.Mail.Message))=some (ses (jia m k t) (zia t.C.Mail.Message) (rawP t.C.Mail.Message))
 | 0,k,t,g,ho,h1,hk,hj=>by
  refine zOa ?_;unfold zTa;dsimp only;rw[hj,decide_eq_false (by omega)];rfl
 | m+1,k,t,g,ho,h1,hk,hj=>by
  have hm:=(k1a g.mail).many;have vla:zTa j ((k:Int),ses t (zia t.C.Mail.Message) (rawP t.C.Mail.Message))=some (.cont (((k+1:Nat):Int),ses (askP t k) (zia t.C.Mail.Message) (rawP t.C.Mail.Message))):=by
   unfold zTa;dsimp only;rw[hj,decide_eq_true (by omega),cond_true,cmd_eq t g (by omega) k h1 (by omega)];simp only[jAc];rw[show w64 ((k:Int)+1)=((k+1:Nat):Int) by rw[qwa (by omega) (by omega)];omega]
  rw[zYa vla];have hl:=yeb g k;have h3:=k8b m;have:=Jla j m (k+1) (askP t k) (jcb g k) (by omega) (by omega) (by rw[YHa];omega) (by rw[YHa];exact hj);rw[YHa]at this;exact this
def setE(t:Talk)(e:Int):Talk:=⟨{t.C with Expected:=e},t.Out⟩
def many(t:Talk):Nat:=t.C.Mail.Envelope.To.length
def onP1(t:Talk)(e:Nat):Talk:=if t.C.Pipelined=false∨e=0 then askP (setE t ((e+1:Nat):Int)) (e+1) else if e=1 then jia (many t+2) 2 (setE t ((e+1:Nat):Int)) else setE t ((e+1:Nat):Int)
def qDa(t:Talk)(e:Nat):Talk:=if e+1=many t+3/\rawP t.C.Mail.Message=true then setE (onP1 t e) ((e+2:Nat):Int) else onP1 t e
theorem on1_C(t:Talk)(e:Nat):(onP1 t e).C={t.C with Expected:=((e+1:Nat):Int),Whole:=(onP1 t e).C.Whole}:=by
 unfold onP1;split
 .rw[Qsb];rfl
 split
 .rw[asks_C];rfl
 rfl
theorem on1_len{t:Talk}(g:Good t.C)(e:Nat):(onP1 t e).Out.length<=t.Out.length+800000:=by
 have hm:=(k1a g.mail).many;have g' :Good (setE t ((e+1:Nat):Int)).C:=⟨g.name,g.mail⟩;unfold onP1;split
 .have:=yeb g' (e+1);have e1:(setE t ((e+1:Nat):Int)).Out=t.Out:=rfl;rw[e1]at this;omega
 split
 .have:=jdb (many t+2) 2 _ g';have h3:=bnd_64 (m:=many t+2) (by show t.C.Mail.Envelope.To.length+2<=_;omega);have e1:(setE t ((e+1:Nat):Int)).Out=t.Out:=rfl;have e2:many t=t.C.Mail.Envelope.To.length:=rfl;rw[e1]at this;omega
 show t.Out.length<=_;omega
theorem ZBb{t:Talk}(g:Good t.C)(e:Nat):(qDa t e).Out.length<=t.Out.length+800000:=by
 have:=on1_len g e;unfold qDa;split
 .exact this
 exact this
theorem vub(t:Talk)(g:Good t.C)(ho:t.Out.length<=90000000000)(e:Nat)(he:t.C.Expected=(e:Int))(h2:e<=many t+2):
 kba (ses t (zia t.C.Mail.Message) (rawP t.C.Mail.Message))=some (ses (qDa t e) (zia t.C.Mail.Message) (rawP t.C.Mail.Message)):=by
 have hm:=(k1a g.mail).many;have hmt:many t=t.C.Mail.Envelope.To.length:=rfl;have ew:w64 (t.C.Expected+1)=((e+1:Nat):Int):=by rw[he,qwa (by omega) (by omega)];omega
 have g' :Good (setE t ((e+1:Nat):Int)).C:=⟨g.name,g.mail⟩;have hs:(zca.mk ((zna.mk t.C.Name t.C.Mail t.C.Pipelined t.C.Buffer ((w64 (t.C.Expected+1))) t.C.Whole t.C.Done t.C.Results)) (zia t.C.Mail.Message) (rawP t.C.Mail.Message) t.Out)=ses (setE t ((e+1:Nat):Int)) (zia t.C.Mail.Message) (rawP t.C.Mail.Message):=by rw[ew];rfl
 have en:w64 ((t.C.Mail.Envelope.To.length:Int)+3)=((many t+3:Nat):Int):=by rw[qwa (by omega) (by omega)];omega
 have hask:=cmd_eq (setE t ((e+1:Nat):Int)) g' (by show t.Out.length<=_;omega) (e+1) (by omega) (by show e+1<=t.C.Mail.Envelope.To.length+3;omega);have hloop:∀j:Int × Bool,j.1=((many t+3:Nat):Int)->iter (zTa j) (2,ses (setE t ((e+1:Nat):Int)) (zia t.C.Mail.Message) (rawP t.C.Mail.Message))=some (ses (jia (many t+2) 2 (setE t ((e+1:Nat):Int))) (zia t.C.Mail.Message) (rawP t.C.Mail.Message)):=fun j hj=>
  Jla j (many t+2) 2 (setE t ((e+1:Nat):Int)) g' (by have:=bnd_64 (m:=many t+2) (by omega);show t.Out.length+bnd (many t+2)<=_;omega) (by omega) (by show 2+(many t+2)=t.C.Mail.Envelope.To.length+4;omega) hj
 have h1:∀q:Int × zca,q=(((many t+3:Nat):Int),ses (onP1 t e) (zia t.C.Mail.Message) (rawP t.C.Mail.Message))->
  (((bif (q.2.Client.Expected==q.1) then some q.2.chunk else some false):Option Bool).bind fun (j16:Bool)=>(bif j16 then some ((zca.mk ((zna.mk q.2.Client.Name q.2.Client.Mail q.2.Client.Pipelined q.2.Client.Buffer ((w64 (q.2.Client.Expected+1))) q.2.Client.Whole q.2.Client.Done q.2.Client.Results)) q.2.content q.2.chunk q.2.out)) else some q.2))=some (ses (qDa t e) (zia t.C.Mail.Message) (rawP t.C.Mail.Message)):=by
  rintro q rfl;have hE:(ses (onP1 t e) (zia t.C.Mail.Message) (rawP t.C.Mail.Message)).Client.Expected=((e+1:Nat):Int):=by show (onP1 t e).C.Expected=_;rw[on1_C]
  have ew2:w64 (((e+1:Nat):Int)+1)=((e+2:Nat):Int):=by rw[qwa (by omega) (by omega)];omega
  dsimp only;rw[hE,ew2];unfold qDa;by_cases hc:e+1=many t+3
  .rw[show (((e+1:Nat):Int)==((many t+3:Nat):Int))=true by rw[beq_iff_eq];omega];simp only[cond_true,jAc];show (bif rawP t.C.Mail.Message then _ else _)=_;cases hr:rawP t.C.Mail.Message with
   | true=>rw[if_pos ⟨hc,rfl⟩];rfl
   | false=>rw[if_neg (fun h=>by cases h.2)];rfl
  rw[show (((e+1:Nat):Int)==((many t+3:Nat):Int))=false by rw[beq_eq_false_iff_ne];omega,if_neg (fun h=>hc h.1)];rfl
 unfold kba;rw[show (zca.mk ((zna.mk (ses t (zia t.C.Mail.Message) (rawP t.C.Mail.Message)).Client.Name (ses t (zia t.C.Mail.Message) (rawP t.C.Mail.Message)).Client.Mail (ses t (zia t.C.Mail.Message) (rawP t.C.Mail.Message)).Client.Pipelined (ses t (zia t.C.Mail.Message) (rawP t.C.Mail.Message)).Client.Buffer ((w64 ((ses t (zia t.C.Mail.Message) (rawP t.C.Mail.Message)).Client.Expected+1))) (ses t (zia t.C.Mail.Message) (rawP t.C.Mail.Message)).Client.Whole (ses t (zia t.C.Mail.Message) (rawP t.C.Mail.Message)).Client.Done (ses t (zia t.C.Mail.Message) (rawP t.C.Mail.Message)).Client.Results)) (ses t (zia t.C.Mail.Message) (rawP t.C.Mail.Message)).content (ses t (zia t.C.Mail.Message) (rawP t.C.Mail.Message)).chunk (ses t (zia t.C.Mail.Message) (rawP t.C.Mail.Message)).out)=ses (setE t ((e+1:Nat):Int)) (zia t.C.Mail.Message) (rawP t.C.Mail.Message) from hs];unfold kaa;simp only[jAc];show ((((bif (!t.C.Pipelined) then some ((w64 ((t.C.Mail.Envelope.To.length:Int)+3)),true) else some ((w64 ((t.C.Mail.Envelope.To.length:Int)+3)),((((e+1:Nat):Int))==1))):Option (Int × Bool)).bind _).bind _)=_;rw[en];cases hp:t.C.Pipelined with
 | false=>
  have ho1:onP1 t e=askP (setE t ((e+1:Nat):Int)) (e+1):=by unfold onP1;rw[if_pos (.inl hp)]
  simp only[jDn,cond_true,jAc];show ((zJa (ses (setE t ((e+1:Nat):Int)) (zia t.C.Mail.Message) (rawP t.C.Mail.Message)) ((e+1:Nat):Int)).bind _).bind _=_;rw[show zJa (ses (setE t ((e+1:Nat):Int)) (zia t.C.Mail.Message) (rawP t.C.Mail.Message)) ((e+1:Nat):Int)=_ from hask];simp only[jAc];exact h1 _ (by rw[ho1])
 | true=>
  simp only[jBf,cond_false,jAc];by_cases h0:e=0
  .have ho1:onP1 t e=askP (setE t ((e+1:Nat):Int)) (e+1):=by unfold onP1;rw[if_pos (.inr h0)]
   rw[show (((e+1:Nat):Int)==1)=true by rw[beq_iff_eq];omega];simp only[cond_true];show ((zJa (ses (setE t ((e+1:Nat):Int)) (zia t.C.Mail.Message) (rawP t.C.Mail.Message)) ((e+1:Nat):Int)).bind _).bind _=_;rw[show zJa (ses (setE t ((e+1:Nat):Int)) (zia t.C.Mail.Message) (rawP t.C.Mail.Message)) ((e+1:Nat):Int)=_ from hask];simp only[jAc];exact h1 _ (by rw[ho1])
  rw[show (((e+1:Nat):Int)==1)=false by rw[beq_eq_false_iff_ne];omega];simp only[cond_false];show ((bif (((e+1:Nat):Int)==2) then _ else _):Option (Int × zca)).bind _=_;by_cases h1' :e=1
  .have ho1:onP1 t e=jia (many t+2) 2 (setE t ((e+1:Nat):Int)):=by unfold onP1;rw[if_neg (by rw[hp];simp[h0]),if_pos h1']
   rw[show (((e+1:Nat):Int)==2)=true by rw[beq_iff_eq];omega];simp only[cond_true];rw[hloop _ rfl];simp only[jAc];exact h1 _ (by rw[ho1])
  have ho1:onP1 t e=setE t ((e+1:Nat):Int):=by unfold onP1;rw[if_neg (by rw[hp];simp[h0]),if_neg h1']
  rw[show (((e+1:Nat):Int)==2)=false by rw[beq_eq_false_iff_ne];omega];simp only[cond_false,jAc];exact h1 _ (by rw[ho1])
def KWa(r x:Int):Int:=if x=0 then r else x
def KXa(l:List Int)(r:Int):List Int:=l.map (KWa r)
theorem vvb(l:List Int)(r:Int):(KXa l r).length=l.length:=by unfold KXa;simp
def Qtb(t:Talk)(r:Int):Talk:=⟨{t.C with Done:=true,Results:=KXa t.C.Results r},t.Out⟩
def KYa(t:Talk)(r:Int):Talk:=⟨(Qtb t r).C,Z9a t.Out vtb⟩
def anyO(l:List Int):Bool:=l.any fun x=>x==0
def tb(t:Talk)(b:List UInt8):Talk:=⟨{t.C with Buffer:=b},t.Out⟩
def sesR(S:zca)(l:List Int):zca:=⟨{S.Client with Results:=l},S.content,S.chunk,S.out⟩
theorem Qub(S:zca)(r:Int)(hl:S.Client.Results.length<=1048576):kAa S r=some (sesR S (KXa S.Client.Results r)):=by
 have key:∀(q p:List Int),S.Client.Results=p++q->iter (z3a S r) ((p.length:Int),sesR S (p.map (KWa r)++q))=some (sesR S (p.map (KWa r)++q.map (KWa r))):=by
  intro q;induction q with
  | nil=>
   intro p hp;refine zOa ?_;unfold z3a;dsimp only;rw[hp,decide_eq_false (by simp)];simp
  | cons x q ih=>
   intro p hp;have hlen:S.Client.Results.length=p.length+(q.length+1):=by rw[hp];simp
   have hpl:(p.map (KWa r)).length=p.length:=by simp
   have hi:idx (p.map (KWa r)++x::q) (p.length:Int)=some x:=by rw[<-hpl];exact idx_app _ _ _
   have hset:List.set (p.map (KWa r)++x::q) (Int.toNat (p.length:Int)) r=p.map (KWa r)++r::q:=by
    rw[jCw,List.set_append_right _ _ (by simp)];simp
   have vla:z3a S r ((p.length:Int),sesR S (p.map (KWa r)++x::q))=some (.cont ((((p++ [x]).length:Nat):Int),sesR S ((p++ [x]).map (KWa r)++q))):=by
    unfold z3a;unfold sesR;dsimp only;rw[decide_eq_true (by omega),hi,hset];simp only[cond_true,jAc];rw[show w64 ((p.length:Int)+1)=(((p++ [x]).length:Nat):Int) by rw[qwa (by omega) (by omega)];simp];by_cases hx:x=0
    .subst hx;simp[KWa]
    rw[beq_eq_false_iff_ne.2 hx];simp[KWa,hx]
   rw[zYa vla,ih (p++ [x]) (by rw[hp];simp)];simp
 have:=key S.Client.Results [] rfl;unfold kAa;rw[show iter (z3a S r) (0,S)=_ from this];rfl
theorem V4a(t:Talk)(b:List UInt8)(w:Bool)(r:Int)(hl:t.C.Results.length<=1048576)(ho:t.Out.length<=1000000000000):zEa (ses t b w) r=some (ses (KYa t r) b w):=by
 unfold zEa;rw[Qub _ r hl];simp only[jAc];show ((zza (ses ⟨{t.C with Results:=KXa t.C.Results r},t.Out⟩ b w) vtb).bind _)=_;rw[WKa ⟨{t.C with Results:=KXa t.C.Results r},t.Out⟩ b w vtb ycb (by show ([]:Str).length<=_;simp) ho];rfl
theorem Qvb(S:zca)(hl:S.Client.Results.length<=1048576):kBa S=some (!anyO S.Client.Results,S):=by
 unfold kBa;rw[kga S.Client.Results (fun i x=>if (0==x)=true then some ((i:Nat):Int) else none) (.inl ()) .inr]
 .simp only[jAc,kLb];rw[Y3a (fun x=>0==x) S.Client.Results 0];have:(S.Client.Results.any fun x=>0==x)=anyO S.Client.Results:=by
   unfold anyO
   congr 1
   funext x;rw[jAo];simp only[beq_iff_eq];exact ⟨fun h=>h.symm,fun h=>h.symm⟩
  rw[this]
 .unfold qJa;rw[kLa];rfl
 intro i x hx;have hi:=kla hx;unfold qJa;rw[qQa hx,kma hx];simp only[cond_true,jAc,sc i (by omega)];cases (0:Int)==x <;> rfl
structure CInv (c:zna):Prop where
 good:Good c
 len:c.Results.length=c.Mail.Envelope.To.length
 e0:0<=c.Expected
 e1:c.Expected<=(c.Mail.Envelope.To.length:Int)+4
 rng:∀r∈c.Results,0<=r/\r<=4
structure COpn (c:zna):Prop where
 whole:c.Whole=(decide (c.Expected=(c.Mail.Envelope.To.length:Int)+4) || (rawP c.Mail.Message && c.Pipelined && decide (2<=c.Expected)))
 nr:¬(rawP c.Mail.Message=true/\c.Expected=(c.Mail.Envelope.To.length:Int)+3)
 opn:∀(i:Nat) x,c.Results[i]? =some x->c.Expected<=(i:Int)+3->x=0
def jca(k:Int):Int:=if k=5 then 3 else 2
def setR(t:Talk)(i:Nat)(r:Int):Talk:=⟨{t.C with Results:=t.C.Results.set i r},t.Out⟩
def vwb(b:List UInt8):List UInt8:=yca (fl [] b).1++ [46,13,10]
def doneP(t:Talk):Talk:=⟨{t.C with Done:=true},t.Out⟩
def Qwb(t:Talk):Talk:=⟨{t.C with Whole:=true,Expected:=((many t+4:Nat):Int)},t.Out++vwb (zia t.C.Mail.Message)⟩
def qta(t:Talk)(k:Int)(e:Nat):Talk:=if k=2 then t else setR t (e - 3) (jca k)
def Kaa(t:Talk)(k:Int)(e:Nat):Talk:=
 if e<=2 then (if k=2 then qDa t e else KYa t (jca k))
 else if e<=many t+2 then (if e=many t+2/\t.C.Pipelined=false/\anyO (qta t k e).C.Results=false then KYa (qta t k e) 2 else qDa (qta t k e) e)
 else if e=many t+3 then (if k=3 then (if anyO t.C.Results=false then doneP t else Qwb t) else KYa t (jca k))
 else if k=2 then KYa t 1 else KYa t (jca k)
theorem KZa{α β:Type}{o:Option α}{v:α}{f:α->Option β}{r:Option β}(h:o=some v)(h2:f v=r):o.bind f=r:=by rw[h];exact h2
theorem Qya(k:Int):qca k=some (jca k):=by
 unfold qca jca;by_cases h:k=5
 .rw[if_pos h,h];rfl
 rw[if_neg h,beq_eq_false_iff_ne.2 h];rfl
theorem fl_end{b:List UInt8}(h: [13,10] <:+b):(fl [] b).2=[]:=(zMb b []).2 (.inr h)
theorem Qxb{m:zta}(h:rawP m=false): [13,10] <:+zia m:=by unfold rawP at h;simpa using h
theorem stuff_eq{m:zta}(h:rawP m=false)(hb:(zia m).length<=12000):wGa (zia m)=some (vwb (zia m),⟨0,0⟩):=by
 rw[zeb,if_neg (by omega),if_neg (by rw[fl_end (Qxb h)];simp)];rfl
theorem Jma(m:zta)(hb:(zia m).length<=12000):(vwb (zia m)).length<=24003:=by
 have h1:=Jga (fl [] (zia m)).1;have h2:=fl_joinN (zia m);have h3:=jab (fl [] (zia m)).1;have h4:(zIa (fl [] (zia m)).1).length=((fl [] (zia m)).1.flatMap fun x=>x++ [13,10]).length:=rfl;unfold vwb;simp only[jAl,jAu,jBw];omega
theorem Qyb(t:Talk)(k:Int)(e:Nat):(qta t k e).C={t.C with Results:=(qta t k e).C.Results}/\(qta t k e).Out=t.Out:=by
 unfold qta;split <;> exact ⟨rfl,rfl⟩
theorem hear_eq(t:Talk)(iv:CInv t.C)(op:COpn t.C)(ho:t.Out.length<=90000000000)(r:zra)(hr:(yXa r).Code=0)(hs:smLn r.Lines)(e:Nat)(he:t.C.Expected=(e:Int)):
 k8a (ses t (zia t.C.Mail.Message) (rawP t.C.Mail.Message)) r=some (ses (Kaa t (iQuo r.Code 100) e) (zia t.C.Mail.Message) (rawP t.C.Mail.Message)):=by
 have gm:=k1a iv.good.mail;have hm:=gm.many;have hmt:many t=t.C.Mail.Envelope.To.length:=rfl;have hlen:=iv.len;have h1:=iv.e1;unfold k8a kaa;rw[zcb r hs,if_neg (by simp[hr])];simp only[jAc];generalize iQuo r.Code 100=k;show (bif decide (t.C.Expected < 3) then _ else (bif decide (t.C.Expected < (w64 ((t.C.Mail.Envelope.To.length:Int)+3))) then _ else (bif (t.C.Expected==(w64 ((t.C.Mail.Envelope.To.length:Int)+3))) then _ else _)))=_;have en:w64 ((t.C.Mail.Envelope.To.length:Int)+3)=((many t+3:Nat):Int):=by rw[qwa (by omega) (by omega)];omega
 rw[he,en];unfold Kaa;by_cases c1:e<=2
 .rw[decide_eq_true (by omega),if_pos c1];simp only[cond_true];by_cases hk:k=2
  .rw[show (k !=2)=false by rw[hk];rfl,if_pos hk];simp only[cond_false];rw[show kba _=_ from vub t iv.good ho e he (by omega)];rfl
  rw[show (k !=2)=true by simpa using hk,if_neg hk];simp only[cond_true,Qya,jAc];rw[show zEa _ _=_ from V4a t _ _ (jca k) (by omega) (by omega)];rfl
 rw[decide_eq_false (show ¬((e:Int) < 3) by omega),if_neg c1];simp only[cond_false];by_cases c2:e<=many t+2
 .rw[decide_eq_true (show (e:Int) < ((many t+3:Nat):Int) by omega),if_pos c2];simp only[cond_true];have ei:w64 ((e:Int) - 3)=((e - 3:Nat):Int):=by rw[qwa (by omega) (by omega)];omega
  have hj:((bif (k !=2) then (qca k).bind fun v16=>(idx t.C.Results ((w64 (t.C.Expected - 3)))).bind fun v18=>(idx t.C.Results ((w64 (t.C.Expected - 3)))).bind fun v20=>some (((w64 ((t.C.Mail.Envelope.To.length:Int)+3)),(zca.mk ((zna.mk t.C.Name t.C.Mail t.C.Pipelined t.C.Buffer t.C.Expected t.C.Whole t.C.Done ((List.set t.C.Results (Int.toNat ((w64 (t.C.Expected - 3)))) v16)))) (zia t.C.Mail.Message) (rawP t.C.Mail.Message) t.Out))) else some (((w64 ((t.C.Mail.Envelope.To.length:Int)+3)),ses t (zia t.C.Mail.Message) (rawP t.C.Mail.Message)))):Option (Int × zca))=
   some (((many t+3:Nat):Int),ses (qta t k e) (zia t.C.Mail.Message) (rawP t.C.Mail.Message)):=by
   rw[en,show w64 (t.C.Expected - 3)=((e - 3:Nat):Int) by rw[he];exact ei];unfold qta;by_cases hk:k=2
   .rw[show (k !=2)=false by rw[hk];rfl,if_pos hk];rfl
   rw[show (k !=2)=true by simpa using hk,if_neg hk,Qya,Zma,jAj (by omega)];rfl
  have hR:=Qyb t k e;have hlen2:(qta t k e).C.Results.length=t.C.Results.length:=by unfold qta;split <;> simp[setR]
  have g2:Good (qta t k e).C:=by rw[hR.1];exact ⟨iv.good.name,iv.good.mail⟩
  have hM:(qta t k e).C.Mail=t.C.Mail:=by rw[hR.1]
  have hE2:(qta t k e).C.Expected=(e:Int):=by rw[hR.1];exact he
  have hP2:(qta t k e).C.Pipelined=t.C.Pipelined:=by rw[hR.1]
  have hon:=vub (qta t k e) g2 (by rw[hR.2];exact ho) e hE2 (by show e<=(qta t k e).C.Mail.Envelope.To.length+2;rw[hM];omega);have hlv:=V4a (qta t k e) (zia t.C.Mail.Message) (rawP t.C.Mail.Message) 2 (by omega) (by rw[hR.2];omega);rw[hM]at hon;refine KZa hj ?_;show (((bif ((qta t k e).C.Expected==w64 (((many t+3:Nat):Int) - 1)) then (bif (!(qta t k e).C.Pipelined) then (kBa (ses (qta t k e) (zia t.C.Mail.Message) (rawP t.C.Mail.Message))).bind _ else _) else _):Option (Bool × zca)).bind _)=_;rw[hE2,hP2,show w64 (((many t+3:Nat):Int) - 1)=((many t+2:Nat):Int) by rw[qwa (by omega) (by omega)];omega];by_cases c3:e=many t+2
  .rw[show ((e:Int)==((many t+2:Nat):Int))=true by rw[beq_iff_eq];omega];simp only[cond_true];cases hp:t.C.Pipelined with
   | true=>
    rw[if_neg (fun h=>by cases h.2.1)];simp only[jBf,cond_false,jAc];rw[hon];rfl
   | false=>
    simp only[jDn,cond_true];rw[Qvb _ (by show (qta t k e).C.Results.length<=_;omega)];simp only[jAc];show (bif (!anyO (qta t k e).C.Results) then _ else _)=_;cases ha:anyO (qta t k e).C.Results with
    | false=>
     rw[if_pos (by refine ⟨c3,?_,?_⟩ <;> simp)];simp only[jDn,cond_true];rw[hlv];rfl
    | true=>
     rw[if_neg (by simp)];simp only[jBf,cond_false];rw[hon];rfl
  rw[show ((e:Int)==((many t+2:Nat):Int))=false by rw[beq_eq_false_iff_ne];omega,if_neg (fun h=>c3 h.1)];simp only[cond_false,jAc];rw[hon];rfl
 rw[decide_eq_false (show ¬((e:Int) < ((many t+3:Nat):Int)) by omega),if_neg c2];simp only[cond_false];by_cases c3:e=many t+3
 .rw[show ((e:Int)==((many t+3:Nat):Int))=true by rw[beq_iff_eq];omega,if_pos c3];simp only[cond_true];have hnr:rawP t.C.Mail.Message=false:=by
   cases hr:rawP t.C.Mail.Message with
   | false=>rfl
   | true=>exact absurd ⟨hr,by omega⟩ op.nr
  unfold q8a;by_cases hk:k=3
  .rw[show (k !=3)=false by rw[hk];rfl,if_pos hk];simp only[cond_false];rw[Qvb _ (by show t.C.Results.length<=_;omega)];simp only[jAc];show ((bif (!anyO t.C.Results) then _ else _:Option zca).bind _)=_;cases ha:anyO t.C.Results with
   | false=>rw[if_pos rfl];rfl
   | true=>
    rw[if_neg (by decide)];simp only[jBf,cond_false];have hst:=stuff_eq hnr gm.big;have hsl:=Jma t.C.Mail.Message gm.big;show (((wGa (zia t.C.Mail.Message)).bind fun v9=>(app 140737488355328 t.Out v9.1).bind _).bind _)=_;rw[hst];simp only[jAc];rw[kRa (by omega)];simp only[jAc];show some (zca.mk (zna.mk t.C.Name t.C.Mail t.C.Pipelined t.C.Buffer (w64 (t.C.Expected+1)) true t.C.Done t.C.Results) (zia t.C.Mail.Message) (rawP t.C.Mail.Message) (t.Out++vwb (zia t.C.Mail.Message)))=_;rw[show w64 (t.C.Expected+1)=((many t+4:Nat):Int) by rw[he,qwa (by omega) (by omega)];omega];rfl
  rw[show (k !=3)=true by simpa using hk,if_neg hk];simp only[cond_true,Qya,jAc];rw[show zEa _ _=_ from V4a t _ _ (jca k) (by omega) (by omega)];rfl
 rw[show ((e:Int)==((many t+3:Nat):Int))=false by rw[beq_eq_false_iff_ne];omega,if_neg c3];simp only[cond_false];by_cases hk:k=2
 .rw[show (k==2)=true by rw[hk];rfl,if_pos hk];simp only[cond_true];rw[show zEa _ _=_ from V4a t _ _ 1 (by omega) (by omega)];rfl
 rw[show (k==2)=false by simpa using hk,if_neg hk];simp only[cond_false,Qya,jAc];rw[show zEa _ _=_ from V4a t _ _ (jca k) (by omega) (by omega)];rfl
theorem ask_tb(t:Talk)(b:List UInt8)(k:Nat):askP (tb t b) k=tb (askP t k) b:=by
 unfold askP;by_cases k1:k=1
 .rw[if_pos k1,if_pos k1];rfl
 rw[if_neg k1,if_neg k1];by_cases k2:k=2
 .rw[if_pos k2,if_pos k2];rfl
 rw[if_neg k2,if_neg k2];show (match t.C.Mail.Envelope.To[k - 3]? with | some r=>(⟨(tb t b).C,Z9a t.Out (Voa r)⟩:Talk) | none=>if rawP t.C.Mail.Message=true then ⟨{(tb t b).C with Whole:=true},Z9a t.Out (Q5a (zia t.C.Mail.Message).length)++zia t.C.Mail.Message⟩ else ⟨(tb t b).C,Z9a t.Out Jia⟩)=_;cases t.C.Mail.Envelope.To[k - 3]? with
 | some r=>rfl
 | none=>
  dsimp only;cases rawP t.C.Mail.Message <;> rfl
theorem Qzb(b:List UInt8):∀(m k:Nat) (t:Talk),jia m k (tb t b)=tb (jia m k t) b
 | 0,_,_=>rfl
 | m+1,k,t=>by show jia m (k+1) (askP (tb t b) k)=_;rw[ask_tb,Qzb b m];rfl
theorem on1_tb(t:Talk)(b:List UInt8)(e:Nat):onP1 (tb t b) e=tb (onP1 t e) b:=by
 unfold onP1;show (if t.C.Pipelined=false∨e=0 then askP (tb (setE t ((e+1:Nat):Int)) b) (e+1) else if e=1 then jia (many t+2) 2 (tb (setE t ((e+1:Nat):Int)) b) else tb (setE t ((e+1:Nat):Int)) b)=_;rw[ask_tb,Qzb];split
 .rfl
 split <;> rfl
theorem vxb(t:Talk)(b:List UInt8)(e:Nat):qDa (tb t b) e=tb (qDa t e) b:=by
 unfold qDa;rw[on1_tb];show (if e+1=many t+3/\rawP t.C.Mail.Message=true then _ else _)=_;split <;> rfl
theorem rcpt_tb(t:Talk)(b:List UInt8)(k:Int)(e:Nat):qta (tb t b) k e=tb (qta t k e) b:=by
 unfold qta;split <;> rfl
theorem QAb(t:Talk)(b:List UInt8)(k:Int)(e:Nat):Kaa (tb t b) k e=tb (Kaa t k e) b:=by
 unfold Kaa;rw[rcpt_tb];by_cases c1:e<=2
 .rw[if_pos c1,if_pos c1];by_cases hk:k=2
  .rw[if_pos hk,if_pos hk,vxb]
  rw[if_neg hk,if_neg hk];rfl
 rw[if_neg c1,if_neg c1];by_cases c2:e<=many t+2
 .rw[if_pos (show e<=many (tb t b)+2 from c2),if_pos c2];by_cases c3:e=many t+2/\t.C.Pipelined=false/\anyO (qta t k e).C.Results=false
  .rw[if_pos (show e=many (tb t b)+2/\(tb t b).C.Pipelined=false/\anyO (tb (qta t k e) b).C.Results=false from c3),if_pos c3];rfl
  rw[if_neg (show ¬(e=many (tb t b)+2/\(tb t b).C.Pipelined=false/\anyO (tb (qta t k e) b).C.Results=false) from c3),if_neg c3,vxb]
 rw[if_neg (show ¬e<=many (tb t b)+2 from c2),if_neg c2];by_cases c3:e=many t+3
 .rw[if_pos (show e=many (tb t b)+3 from c3),if_pos c3];by_cases hk:k=3
  .rw[if_pos hk,if_pos hk];by_cases ha:anyO t.C.Results=false
   .rw[if_pos (show anyO (tb t b).C.Results=false from ha),if_pos ha];rfl
   rw[if_neg (show ¬anyO (tb t b).C.Results=false from ha),if_neg ha];rfl
  rw[if_neg hk,if_neg hk];rfl
 rw[if_neg (show ¬e=many (tb t b)+3 from c3),if_neg c3];by_cases hk:k=2
 .rw[if_pos hk,if_pos hk];rfl
 rw[if_neg hk,if_neg hk];rfl
theorem vyb(k:Int):0<=jca k/\jca k<=4:=by unfold jca;split <;> decide
theorem QBb{r x:Int}(hr:0<=r/\r<=4)(hx:0<=x/\x<=4):0<=KWa r x/\KWa r x<=4:=by unfold KWa;split <;> assumption
theorem jeb{t:Talk}(iv:CInv t.C){r:Int}(hr:0<=r/\r<=4):CInv (Qtb t r).C:=
 ⟨⟨iv.good.name,iv.good.mail⟩,by show (KXa t.C.Results r).length=_;rw[vvb];exact iv.len,iv.e0,iv.e1,fun x hx=>by
  obtain ⟨y,hy,rfl⟩:=jCd.1 (show x∈KXa t.C.Results r from hx);exact QBb hr (iv.rng y hy)⟩
def zfb(a b:List Int):Prop:=∀(i:Nat) x,a[i]? =some x->x≠0->b[i]? =some x
theorem joa(a:List Int):zfb a a:=fun _ _ h _=>h
theorem Jna{a b c:List Int}(h:zfb a b)(h2:zfb b c):zfb a c:=fun i x hx h0=>h2 i x (h i x hx h0) h0
theorem zOb(l:List Int)(r:Int):zfb l (KXa l r):=fun i x hx h0=>by
 unfold KXa;rw[jAk,hx];show some (KWa r x)=_;unfold KWa;rw[if_neg h0]
structure vzb (t u:Talk):Prop where
 inv:CInv u.C
 same:u.C.Name=t.C.Name/\u.C.Mail=t.C.Mail/\u.C.Pipelined=t.C.Pipelined
 stays:zfb t.C.Results u.C.Results
 opn:u.C.Done=true∨(u.C.Done=false/\COpn u.C)
 out:u.Out.length<=t.Out.length+900000
theorem jLa{t:Talk}(iv:CInv t.C){r:Int}(hr:0<=r/\r<=4):vzb t (KYa t r):=by
 have:=jKa (o:=t.Out) ycb;exact ⟨jeb iv hr,⟨rfl,rfl,rfl⟩,zOb _ _,.inl rfl,by show (Z9a t.Out vtb).length<=_;omega⟩
theorem Joa(t:Talk)(k:Nat)(h1:1<=k)(h2:k<=many t+3):(askP t k).C.Whole=(t.C.Whole || (decide (k=many t+3) && rawP t.C.Mail.Message)):=by
 have hmt:many t=t.C.Mail.Envelope.To.length:=rfl;unfold askP;by_cases k1:k=1
 .rw[if_pos k1,decide_eq_false (by omega)];simp
 rw[if_neg k1];by_cases k2:k=2
 .rw[if_pos k2,decide_eq_false (by omega)];simp
 rw[if_neg k2];by_cases hk:k=many t+3
 .rw[jBr (by omega),decide_eq_true hk];dsimp only;split
  .rename_i hr;rw[hr];simp
  rename_i hr;simp only[Bool.not_eq_true]at hr;rw[hr];simp
 rw[jAj (by omega),decide_eq_false hk];simp
theorem zPb:∀(m k:Nat) (t:Talk),1<=k->k+m=many t+4->0 < m->(jia m k t).C.Whole=(t.C.Whole || rawP t.C.Mail.Message)
 | 0,_,_,_,_,h=>by omega
 | m+1,k,t,h1,h2,_=>by
  show (jia m (k+1) (askP t k)).C.Whole=_;have hw:=Joa t k h1 (by omega);have hM:=YHa t k;have hmm:many (askP t k)=many t:=by show (askP t k).C.Mail.Envelope.To.length=_;rw[hM];rfl
  cases m with
  | zero=>
   show (askP t k).C.Whole=_;rw[hw,decide_eq_true (by omega)];simp
  | succ m=>
   rw[zPb (m+1) (k+1) (askP t k) (by omega) (by omega) (by omega),hw,hM,decide_eq_false (by omega)];simp
def yfb(c:zna):Prop:=c.Whole=(decide (c.Expected=(c.Mail.Envelope.To.length:Int)+4) || (rawP c.Mail.Message && c.Pipelined && decide (2<=c.Expected)))
theorem QCb(t:Talk)(op:yfb t.C)(e:Nat)(he:t.C.Expected=(e:Int))(h2:e<=many t+2)(hm:1<=many t):
 (onP1 t e).C.Whole=(rawP t.C.Mail.Message && (decide (e=many t+2) || (t.C.Pipelined && decide (1<=e)))):=by
 have hmt:many t=t.C.Mail.Envelope.To.length:=rfl;have hw:t.C.Whole=(decide (t.C.Expected=(t.C.Mail.Envelope.To.length:Int)+4) || (rawP t.C.Mail.Message && t.C.Pipelined && decide (2<=t.C.Expected))):=op;rw[he,decide_eq_false (show ¬(e:Int)=(t.C.Mail.Envelope.To.length:Int)+4 by omega),jDs]at hw;have hw' :t.C.Whole=(rawP t.C.Mail.Message && t.C.Pipelined && decide (2<=e)):=by rw[hw];congr 1;rw[jAo];simp;omega
 unfold onP1;by_cases c1:t.C.Pipelined=false∨e=0
 .rw[if_pos c1,Joa _ _ (by omega) (by show e+1<=many t+3;omega)];show (t.C.Whole || (decide (e+1=many t+3) && rawP t.C.Mail.Message))=_;rw[hw'];rcases c1 with hp | h0
  .rw[hp];have:decide (e+1=many t+3)=decide (e=many t+2):=by rw[jAo];simp
   rw[this];cases rawP t.C.Mail.Message <;> simp
  rw[decide_eq_false (show ¬2<=e by omega),decide_eq_false (show ¬e+1=many t+3 by omega),decide_eq_false (show ¬e=many t+2 by omega),decide_eq_false (show ¬1<=e by omega)];simp
 rw[if_neg c1];have hp:t.C.Pipelined=true:=by cases h:t.C.Pipelined with | true=>rfl | false=>exact absurd (.inl h) c1
 have h0:1<=e:=by have:¬e=0:=fun h=>c1 (.inr h);omega
 rw[hp,decide_eq_true h0];by_cases h1:e=1
 .rw[if_pos h1,zPb _ _ _ (by omega) (by show 2+(many t+2)=many t+4;omega) (by omega)];show (t.C.Whole || rawP t.C.Mail.Message)=_;rw[hw',decide_eq_false (show ¬2<=e by omega)];simp
 rw[if_neg h1];show t.C.Whole=_;rw[hw',hp,decide_eq_true (show 2<=e by omega)];simp
theorem W8a{t:Talk}(iv:CInv t.C)(op:yfb t.C)(hd:t.C.Done=false)(e:Nat)(he:t.C.Expected=(e:Int))(h2:e<=many t+2)
 (hx:∀(i:Nat) x,t.C.Results[i]? =some x->(e:Int)+1<=(i:Int)+3->x=0):vzb t (qDa t e):=by
 have hm:=(k1a iv.good.mail).many;have hmt:many t=t.C.Mail.Envelope.To.length:=rfl;have hw:=QCb t op e he h2 (by omega);have hC:=on1_C t e;have hl:=ZBb iv.good e;have hC2:(qDa t e).C={t.C with Expected:=(qDa t e).C.Expected,Whole:=(onP1 t e).C.Whole}:=by
  unfold qDa;split
  .show ({(onP1 t e).C with Expected:=_}:zna)=_;rw[hC];rfl
  rw[hC]
 have hE:(qDa t e).C.Expected=if e+1=many t+3/\rawP t.C.Mail.Message=true then ((e+2:Nat):Int) else ((e+1:Nat):Int):=by
  unfold qDa;split
  .rfl
  rw[hC]
 have hle:=iv.len;refine ⟨?_,?_,?_,.inr ⟨?_,?_⟩,by omega⟩
 .rw[hC2];refine ⟨⟨iv.good.name,iv.good.mail⟩,iv.len,?_,?_,iv.rng⟩
  .show 0<=(qDa t e).C.Expected;rw[hE];split <;> omega
  show (qDa t e).C.Expected<=(t.C.Mail.Envelope.To.length:Int)+4;rw[hE];split <;> omega
 .rw[hC2];exact ⟨rfl,rfl,rfl⟩
 .rw[hC2];exact joa _
 .rw[hC2];exact hd
 rw[hC2,hE];by_cases hc:e+1=many t+3/\rawP t.C.Mail.Message=true
 .rw[if_pos hc];refine ⟨?_,?_,?_⟩
  .show (onP1 t e).C.Whole=(decide (((e+2:Nat):Int)=(t.C.Mail.Envelope.To.length:Int)+4) || _);rw[hw,hc.2,decide_eq_true (show ((e+2:Nat):Int)=(t.C.Mail.Envelope.To.length:Int)+4 by omega),decide_eq_true (show e=many t+2 by omega)];rfl
  .show ¬(rawP t.C.Mail.Message=true/\((e+2:Nat):Int)=(t.C.Mail.Envelope.To.length:Int)+3);omega
  intro i x hi h3;have h3' :((e+2:Nat):Int)<=(i:Int)+3:=h3;exact hx i x hi (by omega)
 rw[if_neg hc];refine ⟨?_,?_,?_⟩
 .show (onP1 t e).C.Whole=(decide (((e+1:Nat):Int)=(t.C.Mail.Envelope.To.length:Int)+4) || (rawP t.C.Mail.Message && t.C.Pipelined && decide (2<=((e+1:Nat):Int))));rw[hw,decide_eq_false (show ¬((e+1:Nat):Int)=(t.C.Mail.Envelope.To.length:Int)+4 by omega)];have hd2:decide (2<=((e+1:Nat):Int))=decide (1<=e):=by rw[jAo];simp;omega
  rw[hd2];cases hr:rawP t.C.Mail.Message with
  | false=>simp
  | true=>
   rw[decide_eq_false (show ¬e=many t+2 by intro h;exact hc ⟨by omega,hr⟩)];simp
 .show ¬(rawP t.C.Mail.Message=true/\((e+1:Nat):Int)=(t.C.Mail.Envelope.To.length:Int)+3);rintro ⟨a,b⟩;exact hc ⟨by omega,a⟩
 intro i x hi h3;have h3' :((e+1:Nat):Int)<=(i:Int)+3:=h3;exact hx i x hi (by omega)
theorem ZCb{t:Talk}(iv:CInv t.C)(k:Int)(e:Nat)(h0:t.C.Results[e - 3]? =some 0):CInv (qta t k e).C/\zfb t.C.Results (qta t k e).C.Results:=by
 unfold qta;split
 .exact ⟨iv,joa _⟩
 refine ⟨⟨⟨iv.good.name,iv.good.mail⟩,?_,iv.e0,iv.e1,?_⟩,?_⟩
 .show (t.C.Results.set (e - 3) (jca k)).length=_;rw[List.length_set];exact iv.len
 .intro r hr;rcases List.mem_or_eq_of_mem_set (show r∈t.C.Results.set (e - 3) (jca k) from hr) with h | h
  .exact iv.rng r h
  rw[h];exact vyb k
 intro i x hx hn;show (t.C.Results.set (e - 3) (jca k))[i]? =some x;rw[jDp];by_cases hi:e - 3=i
 .rw[hi]at h0;rw[hx]at h0;cases h0;exact absurd rfl hn
 rw[if_neg hi];exact hx
theorem after_of{t u v:Talk}(hs:u.C.Name=t.C.Name/\u.C.Mail=t.C.Mail/\u.C.Pipelined=t.C.Pipelined)(hst:zfb t.C.Results u.C.Results)(hl:u.Out.length=t.Out.length)(h2:vzb u v):vzb t v:=
 ⟨h2.inv,⟨h2.same.1.trans hs.1,h2.same.2.1.trans hs.2.1,h2.same.2.2.trans hs.2.2⟩,Jna hst h2.stays,h2.opn,by have:=h2.out;omega⟩
theorem ZDb{t:Talk}(iv:CInv t.C)(op:COpn t.C)(hd:t.C.Done=false)(k:Int)(e:Nat)(he:t.C.Expected=(e:Int)):vzb t (Kaa t k e):=by
 have hm:=(k1a iv.good.mail).many;have gm:=k1a iv.good.mail;have hmt:many t=t.C.Mail.Envelope.To.length:=rfl;have hlen:=iv.len;have hmr:=vyb k;unfold Kaa;by_cases c1:e<=2
 .rw[if_pos c1];split
  .exact W8a iv op.whole hd e he (by omega) (fun i x hi h=>op.opn i x hi (by omega))
  exact jLa iv hmr
 rw[if_neg c1];by_cases c2:e<=many t+2
 .rw[if_pos c2];have h0:t.C.Results[e - 3]? =some 0:=by
   rw[jAj (by omega)]
   congr 1
   exact op.opn (e - 3) _ (jAj (by omega)) (by omega)
  have hR:=Qyb t k e;obtain ⟨iu,su⟩:=ZCb iv k e h0;have hs:(qta t k e).C.Name=t.C.Name/\(qta t k e).C.Mail=t.C.Mail/\(qta t k e).C.Pipelined=t.C.Pipelined:=by rw[hR.1];exact ⟨rfl,rfl,rfl⟩
  refine after_of hs su (by rw[hR.2]) ?_;split
  .exact jLa iu (by decide)
  have ow:yfb (qta t k e).C:=by rw[hR.1];exact op.whole
  have hmm:many (qta t k e)=many t:=by show (qta t k e).C.Mail.Envelope.To.length=_;rw[hs.2.1];rfl
  refine W8a iu ow (by rw[hR.1];exact hd) e (by rw[hR.1];exact he) (by omega) (fun i x hi h=>?_);unfold qta at hi;split at hi
  .exact op.opn i x hi (by omega)
  refine op.opn i x ?_ (by omega);have hi' :(t.C.Results.set (e - 3) (jca k))[i]? =some x:=hi;rw[jDp,if_neg (by omega)]at hi';exact hi'
 rw[if_neg c2];by_cases c3:e=many t+3
 .rw[if_pos c3];have hnr:rawP t.C.Mail.Message=false:=by
   cases hr:rawP t.C.Mail.Message with
   | false=>rfl
   | true=>exact absurd ⟨hr,by omega⟩ op.nr
  split
  .split
   .exact ⟨⟨⟨iv.good.name,iv.good.mail⟩,iv.len,iv.e0,iv.e1,iv.rng⟩,⟨rfl,rfl,rfl⟩,joa _,.inl rfl,by show t.Out.length<=_;omega⟩
   have hsl:=Jma t.C.Mail.Message gm.big;refine ⟨⟨⟨iv.good.name,iv.good.mail⟩,iv.len,?_,?_,iv.rng⟩,⟨rfl,rfl,rfl⟩,joa _,.inr ⟨hd,?_,?_,?_⟩,?_⟩
   .show (0:Int)<=((many t+4:Nat):Int);omega
   .show ((many t+4:Nat):Int)<=(t.C.Mail.Envelope.To.length:Int)+4;omega
   .show true=(decide (((many t+4:Nat):Int)=(t.C.Mail.Envelope.To.length:Int)+4) || _);rw[decide_eq_true (show ((many t+4:Nat):Int)=(t.C.Mail.Envelope.To.length:Int)+4 by omega)];rfl
   .show ¬(rawP t.C.Mail.Message=true/\_);rw[hnr];simp
   .intro i x hi h;have h' :((many t+4:Nat):Int)<=(i:Int)+3:=h;have:=kla (show t.C.Results[i]? =some x from hi);omega
   show (t.Out++vwb (zia t.C.Mail.Message)).length<=_;simp only[jAl];omega
  exact jLa iv hmr
 rw[if_neg c3];split
 .exact jLa iv (by decide)
 exact jLa iv hmr
def noCR:Str->Bool
 | c::d::r=> !(c==13 && d==10) && noCR (d::r)
 | _=>true
theorem vLa{c d:UInt8}{r:Str}:noCR (c::d::r)=true↔¬(c=13/\d=10)/\noCR (d::r)=true:=by
 rw[noCR,jAh];by_cases h1:c=13 <;> by_cases h2:d=10 <;> simp[h1,h2]
theorem QDb(l:Str):∀cur r,noCR l=true->fl cur (l++13::10::r)=((cur++l)::(fl [] r).1,(fl [] r).2):=by
 induction l with
 | nil=>intro cur r _;simp[Qob]
 | cons c l ih=>
  intro cur r h;cases l with
  | nil=>
   simp only[jBu,jBm];rw[k4b (by rintro ⟨_,h⟩;cases h),Qob]
  | cons d l=>
   obtain ⟨h1,h2⟩:=vLa.1 h;simp only[jBu];rw[k4b h1];have:=ih (cur++ [c]) r h2;simp only[jBu]at this;rw[this];simp
theorem QEb(l:Str)(c d:UInt8):noCR (l++ [c])=true->¬(c=13/\d=10)->noCR (l++ [c,d])=true:=by
 induction l with
 | nil=>intro _ h;simp only[jBm];exact vLa.2 ⟨h,rfl⟩
 | cons x l ih=>
  intro h1 h2;cases l with
  | nil=>
   simp only[jBm,jBu]at h1 ih ⊢;obtain ⟨a,b⟩:=vLa.1 h1;exact vLa.2 ⟨a,ih b h2⟩
  | cons y l=>
   simp only[jBu]at h1 ih ⊢;obtain ⟨a,b⟩:=vLa.1 h1;exact vLa.2 ⟨a,ih b h2⟩
theorem noCR_pre(l m:Str):noCR (l++m)=true->noCR l=true:=by
 induction l with
 | nil=>intro _;rfl
 | cons x l ih=>
  intro h;cases l with
  | nil=>rfl
  | cons y l=>
   simp only[jBu]at h ih;obtain ⟨a,b⟩:=vLa.1 h;exact vLa.2 ⟨a,ih b⟩
theorem fl_lines(l cur:Str):noCR (cur++l.take 1)=true->∀x∈(fl cur l).1,noCR x=true:=by
 fun_induction fl cur l with
 | case1 cur=>simp
 | case2 cur c=>simp
 | case3 cur c d r h ih=>
  intro hc x hx;rcases jBh.1 hx with rfl | hx
  .exact noCR_pre _ _ hc
  refine ih ?_ x hx;cases r <;> rfl
 | case4 cur c d r h ih=>
  intro hc;refine ih ?_;have:=QEb cur c d (by simpa using hc) h;simpa using this
theorem K0a(l:Str):∀x∈(fl [] l).1,noCR x=true:=fl_lines l [] (by cases l <;> rfl)
theorem rdQ_any{s:Str}{n:Nat}(h:rdQ s=some n):s.any rlnC=false:=by
 unfold rdQ at h;split at h
 .split at h
  .rename_i hc;simp only[jAh,jCn]at hc;exact hc.1.2
  cases h
 cases h
theorem QFb:∀(r:List Str) (i:Nat) (acc:List Str) (prev:Int) (v:PR),parP r i acc prev=some v->v.2.2.Code=0->acc.length=i->i<=20->(∀s∈acc,s.length<=500/\s.any rlnC=false)->ROk v.1
 | [],_,_,_,_,h,_,_,_,_=>by cases h
 | s::r,i,acc,prev,v,h,h0,hl,hi,ha=>by
  rw[parP]at h;split at h
  .cases h;cases h0
  rename_i h20;split at h
  .cases h;cases h0
  rename_i n hn;have hq:=Qmb hn;have hany:=rdQ_any hn;split at h
  .cases h;cases h0
  rename_i h504;have hs:(s.drop 4).length<=500/\(s.drop 4).any rlnC=false:=by
   refine ⟨by rw[jCr];omega,?_⟩;rw[jCj]at hany ⊢;exact fun x hx=>hany x (List.mem_of_mem_drop hx)
  have ha' :∀x∈acc++ [s.drop 4],x.length<=500/\x.any rlnC=false:=by
   intro x hx;rcases jCc.1 hx with h | h
   .exact ha x h
   rw[jBi.1 h];exact hs
  split at h
  .cases h;cases h0
  split at h
  .cases h;exact ⟨⟨n,rfl,hq.2⟩,by simp;omega,ha'⟩
  exact QFb r _ _ _ v h h0 (by simp;omega) (by omega) ha'
theorem jfb{l:List Str}(h:(vha l).2.2.Code=0):ROk (vha l).1:=by
 unfold vha at h ⊢;split at h
 .cases h
 rename_i h300;rw[if_neg h300];cases hp:parP l 0 [] 0 with
 | none=>rw[hp]at h;cases h
 | some v=>
  rw[hp]at h;exact QFb l 0 [] 0 v hp h rfl (by omega) (fun _ h=>by cases h)
theorem rOk_sm{r:zra}(h:ROk r):smLn r.Lines:=⟨by have:=h.len;omega,fun s hs=>by have:=(h.lines s hs).1;omega⟩
def wUa(l:List Str):Int:=(vha l).2.2.Code
def badL(acc:List Str)(x:Str):Prop:=4000 < x.length∨(wUa (acc++ [x])≠0/\wUa (acc++ [x])≠9)
instance (acc:List Str) (x:Str):Decidable (badL acc x):=inferInstanceAs (Decidable (_∨_))
inductive Scan where
 | wait
 | broken
 | said (r:zra) (ls:List Str)
def QNa:List Str->List Str->Scan
 | _,[]=>.wait
 | acc,x::r=>if badL acc x then .broken else if wUa (acc++ [x])=0 then .said (vha (acc++ [x])).1 r else QNa (acc++ [x]) r
def kEa(t:Talk)(r:zra):Talk:=Kaa t (iQuo r.Code 100) t.C.Expected.toNat
def zgb(t:Talk):Talk:=Qtb t (bif t.C.Whole then 4 else 2)
def runP:Talk->List Str->List Str->Talk × List Str
 | t,acc,[]=>(t,acc)
 | t,acc,x::r=>if badL acc x then (zgb t,[]) else if wUa (acc++ [x])=0 then (if (kEa t (vha (acc++ [x])).1).C.Done=true then (kEa t (vha (acc++ [x])).1,[]) else runP (kEa t (vha (acc++ [x])).1) [] r) else runP t (acc++ [x]) r
theorem k9b(t:Talk):∀(ls acc:List Str),runP t acc ls=(match QNa acc ls with | .wait=>(t,acc++ls) | .broken=>(zgb t,[]) | .said r q=>if (kEa t r).C.Done=true then (kEa t r,[]) else runP (kEa t r) [] q)
 | [],acc=>by simp[runP,QNa]
 | x::r,acc=>by
  rw[runP,QNa];by_cases hb:badL acc x
  .rw[if_pos hb,if_pos hb]
  rw[if_neg hb,if_neg hb];by_cases hc:wUa (acc++ [x])=0
  .rw[if_pos hc,if_pos hc]
  rw[if_neg hc,if_neg hc,k9b t r (acc++ [x])];cases QNa (acc++ [x]) r <;> simp
theorem vAb:∀(ls acc:List Str) {r:zra} {q:List Str},QNa acc ls=.said r q->ROk r/\∃p,ls=p++q/\1<=p.length
 | [],acc,r,q,h=>by cases h
 | x::l,acc,r,q,h=>by
  rw[QNa]at h;split at h
  .cases h
  split at h
  .rename_i hc;cases h;exact ⟨jfb hc,[x],rfl,by simp⟩
  obtain ⟨h1,p,h2,h3⟩:=vAb l _ h;exact ⟨h1,x::p,by rw[h2];rfl,by simp⟩
theorem ZEb{x:Str}(h:noCR x=true)(r:Str):Lib.index (x++13::10::r) [13,10]=(x.length:Int):=by
 have hf:=QDb x [] r h;have hg:=Lib.index_ge (x++13::10::r) [13,10];by_cases hi:Lib.index (x++13::10::r) [13,10]= -1
 .rw[Qpb _ [] hi]at hf;cases hf
 obtain ⟨k,hk⟩:∃k:Nat,Lib.index (x++13::10::r) [13,10]=(k:Int):=⟨(Lib.index (x++13::10::r) [13,10]).toNat,by omega⟩;obtain ⟨h1,h2⟩:=ybb _ [] k hk;rw[h2]at hf;have h3:(x++13::10::r).take k=x:=by
  have:=congrArg (fun p=>p.1.head?) hf;simpa using this
 have h4:=congrArg List.length h3;rw[jBt]at h4;rw[hk];omega
theorem ZFb{x:Str}(h:(fl [] x).1=[]):Lib.index x [13,10]= -1:=by
 have hg:=Lib.index_ge x [13,10];by_cases hi:Lib.index x [13,10]= -1
 .exact hi
 obtain ⟨k,hk⟩:∃k:Nat,Lib.index x [13,10]=(k:Int):=⟨(Lib.index x [13,10]).toNat,by omega⟩;obtain ⟨h1,h2⟩:=ybb _ [] k hk;rw[h2]at h;cases h
theorem Jpa:∀(ls:List Str),(∀x∈ls,noCR x=true)->∀r,fl [] (zIa ls++r)=(ls++(fl [] r).1,(fl [] r).2)
 | [],_,r=>by simp[zIa]
 | x::ls,h,r=>by
  have e:zIa (x::ls)++r=x++13::10::(zIa ls++r):=by rw[ZMa];simp
  rw[e,QDb x [] _ (h x (by simp)),Jpa ls (fun y hy=>h y (by simp[hy])) r];simp
theorem fl_tail(b:Str):(fl [] (fl [] b).2).1=[]:=by
 have h:=Jpa (fl [] b).1 (K0a b) (fl [] b).2;rw[V3a]at h;have:=congrArg (fun p=>p.1.length) h;simp only[jAl]at this;exact jBy (by omega)
theorem fl_more(a b:Str):fl [] (a++b)=((fl [] a).1++(fl [] ((fl [] a).2++b)).1,(fl [] ((fl [] a).2++b)).2):=by
 have h:=Jpa (fl [] a).1 (K0a a) ((fl [] a).2++b);rw[<-jAx,V3a]at h;exact h
theorem V5a(a b:List Str):zIa (a++b)=zIa a++zIa b:=by simp[zIa]
theorem vBb{x:Str}:∀{ls:List Str},x∈ls->x.length<=(zIa ls).length
 | y::ls,h=>by
  rw[Jha];rcases jBh.1 h with rfl | h
  .omega
  have:=vBb h;omega
theorem Jqa(ls:List Str):2 * ls.length<=(zIa ls).length:=jab ls
theorem sm_flat{ls:List Str}(h:(zIa ls).length<=40000):smLn ls:=⟨by have:=Jqa ls;omega,fun s hs=>by have:=vBb hs;omega⟩
theorem QGb(t:Talk)(b:List UInt8)(w:Bool)(hl:t.C.Results.length<=1048576):k7a (ses t b w)=some (ses (zgb t) b w):=by
 unfold k7a;have hr:∀r,kAa (ses t b w) r=_:=fun r=>Qub (ses t b w) r hl
 show ((bif t.C.Whole then some 4 else some 2:Option Int).bind _)=_;unfold zgb;cases t.C.Whole with
 | true=>simp only[cond_true,jAc,hr];rfl
 | false=>simp only[cond_false,jAc,hr];rfl
theorem hearS_eq(t:Talk)(iv:CInv t.C)(op:COpn t.C)(ho:t.Out.length<=90000000000){r:zra}(hr:ROk r)(b:List UInt8):
 k8a (ses (tb t b) (zia t.C.Mail.Message) (rawP t.C.Mail.Message)) r=some (ses (tb (kEa t r) b) (zia t.C.Mail.Message) (rawP t.C.Mail.Message)):=by
 have he:t.C.Expected=((t.C.Expected.toNat:Nat):Int):=by have:=iv.e0;omega
 have iv' :CInv (tb t b).C:=⟨⟨iv.good.name,iv.good.mail⟩,iv.len,iv.e0,iv.e1,iv.rng⟩;have op' :COpn (tb t b).C:=⟨op.whole,op.nr,op.opn⟩;have h:=hear_eq (tb t b) iv' op' ho r (by rw[vqb hr]) (rOk_sm hr) _ he;rw[QAb]at h;exact h
theorem vCb(t:Talk)(iv:CInv t.C)(op:COpn t.C)(ho:t.Out.length<=90000000000)(rest:Str)(hrest:(fl [] rest).1=[])(b:Str)(hb:b.length<=40000):∀(ls acc:List Str),b=zIa acc++(zIa ls++rest)->(∀x∈ls,noCR x=true)->
 iter (kra (ses (tb t b) (zia t.C.Mail.Message) (rawP t.C.Mail.Message))) (((zIa acc).length:Int),acc)=some (match QNa acc ls with
  | .wait=>(false,ses (tb t b) (zia t.C.Mail.Message) (rawP t.C.Mail.Message))
  | .broken=>(false,ses (tb (zgb t) b) (zia t.C.Mail.Message) (rawP t.C.Mail.Message))
  | .said r q=>(true,ses (tb (kEa t r) (zIa q++rest)) (zia t.C.Mail.Message) (rawP t.C.Mail.Message)))
 | [],acc,h,_=>by
  have hm:=(k1a iv.good.mail).many;have h' :b=zIa acc++rest:=by rw[h];simp[zIa]
  have hd:b.drop (zIa acc).length=rest:=by rw[h'];exact List.drop_left
  have hl:(zIa acc).length<=b.length:=by rw[h'];simp
  refine zOa ?_;unfold kra;show ((cut b ((zIa acc).length:Int) (b.length:Int)).bind _)=_;rw[jba hl,hd];simp only[jAc,qWa];rw[if_pos (by
   have:rest.length<=b.length:=by (rw[h'];simp)
   exact ⟨by omega,rfl⟩),ZFb hrest]
  rfl
 | x::ls,acc,h,hn=>by
  have hm:=(k1a iv.good.mail).many;have h' :b=zIa acc++(x++13::10::(zIa ls++rest)):=by rw[h,ZMa];simp
  have hd:b.drop (zIa acc).length=x++13::10::(zIa ls++rest):=by rw[h'];exact List.drop_left
  have hbl:b.length=(zIa acc).length+x.length+2+(zIa ls).length+rest.length:=by rw[h'];simp;omega
  have hsn:zIa (acc++ [x])=zIa acc++x++ [13,10]:=by rw[V5a];simp[zIa]
  have hsm:smLn (acc++ [x]):=sm_flat (by rw[hsn];simp;omega);have hcut:cut b ((zIa acc).length:Int) (((zIa acc).length+x.length:Nat):Int)=some x:=by
   rw[yZb (by omega) (by omega),hd];simp
  have hcut2:cut b (((zIa acc).length+x.length+2:Nat):Int) (b.length:Int)=some (zIa ls++rest):=by
   rw[jba (by omega)]
   congr 1
   rw[h',show (zIa acc).length+x.length+2=(zIa acc++(x++ [13,10])).length by simp;omega,show zIa acc++(x++13::10::(zIa ls++rest))=(zIa acc++(x++ [13,10]))++(zIa ls++rest) by simp];exact List.drop_left
  have hcnt:=Jqa acc;have hbody:kra (ses (tb t b) (zia t.C.Mail.Message) (rawP t.C.Mail.Message)) (((zIa acc).length:Int),acc)=
   some (if badL acc x then .out (false,ses (tb (zgb t) b) (zia t.C.Mail.Message) (rawP t.C.Mail.Message)) else if wUa (acc++ [x])=0 then .out (true,ses (tb (kEa t (vha (acc++ [x])).1) (zIa ls++rest)) (zia t.C.Mail.Message) (rawP t.C.Mail.Message)) else .cont (((zIa (acc++ [x])).length:Int),acc++ [x])):=by
   unfold kra;show ((cut b ((zIa acc).length:Int) (b.length:Int)).bind _)=_;rw[jba (by omega),hd];simp only[jAc,qWa];rw[if_pos ⟨by simp;omega,rfl⟩,ZEb (hn x (by simp))];simp only[jAc];rw[decide_eq_false (show ¬((x.length:Int) < 0) by omega)];simp only[cond_false];rw[W3a _ _ (by omega)];show ((cut b ((zIa acc).length:Int) (((zIa acc).length+x.length:Nat):Int)).bind _)=_;rw[hcut];simp only[jAc];rw[kRa (by simp;omega)];simp only[jAc];rw[zdb _ hsm];simp only[jAc];rw[K2b _ 2 (by show x.length+2<=_;omega),W3a _ _ (by show (zIa acc).length+(x.length+2)<=_;omega)];have hco:(vha (acc++ [x])).2.2.Code=wUa (acc++ [x]):=rfl;rw[hco];have hj:((bif decide (4000 < (x.length:Int)) then some ((((zIa acc).length+(x.length+2):Nat):Int),true) else (bif (wUa (acc++ [x]) !=0) then some ((((zIa acc).length+(x.length+2):Nat):Int),(wUa (acc++ [x]) !=9)) else some ((((zIa acc).length+(x.length+2):Nat):Int),false))):Option (Int × Bool))=some ((((zIa acc).length+(x.length+2):Nat):Int),decide (badL acc x)):=by
    by_cases h1:4000 < x.length
    .have hb1:badL acc x:=Or.inl h1;rw[decide_eq_true (show (4000:Int) < (x.length:Int) by omega),decide_eq_true hb1];rfl
    rw[decide_eq_false (show ¬(4000:Int) < (x.length:Int) by omega)];by_cases h2:wUa (acc++ [x])=0
    .have hb1:¬badL acc x:=by unfold badL;omega
     rw[show (wUa (acc++ [x]) !=0)=false by simp[h2],decide_eq_false hb1];rfl
    rw[show (wUa (acc++ [x]) !=0)=true by simpa using h2];by_cases h3:wUa (acc++ [x])=9
    .have hb1:¬badL acc x:=by unfold badL;omega
     rw[show (wUa (acc++ [x]) !=9)=false by simp[h3],decide_eq_false hb1];rfl
    have hb1:badL acc x:=Or.inr ⟨h2,h3⟩;rw[show (wUa (acc++ [x]) !=9)=true by simpa using h3,decide_eq_true hb1];rfl
   rw[hj];simp only[jAc];by_cases hbad:badL acc x
   .rw[decide_eq_true hbad,if_pos hbad];simp only[cond_true];rw[QGb (tb t b) _ _ (by show t.C.Results.length<=_;have:=iv.len;omega)];rfl
   rw[decide_eq_false hbad,if_neg hbad];simp only[cond_false];by_cases hc:wUa (acc++ [x])=0
   .rw[show (wUa (acc++ [x])==0)=true by rw[beq_iff_eq];exact hc,if_pos hc];simp only[cond_true];show ((cut b (((zIa acc).length+x.length+2:Nat):Int) (b.length:Int)).bind _)=_;rw[hcut2];simp only[jAc];exact KZa (hearS_eq t iv op ho (jfb hc) (zIa ls++rest)) rfl
   rw[show (wUa (acc++ [x])==0)=false by rw[beq_eq_false_iff_ne];exact hc,if_neg hc];simp only[cond_false];rw[show (zIa (acc++ [x])).length=(zIa acc).length+(x.length+2) by rw[hsn];simp]
  rw[QNa];by_cases hbad:badL acc x
  .rw[if_pos hbad]at hbody ⊢;exact zOa hbody
  rw[if_neg hbad]at hbody ⊢;by_cases hc:wUa (acc++ [x])=0
  .rw[if_pos hc]at hbody ⊢;exact zOa hbody
  rw[if_neg hc]at hbody ⊢;rw[zYa hbody];exact vCb t iv op ho rest hrest b hb ls (acc++ [x]) (by rw[hsn,h'];simp) (fun y hy=>hn y (by simp[hy]))
theorem Jra{t:Talk}(iv:CInv t.C)(op:COpn t.C)(hd:t.C.Done=false)(r:zra):vzb t (kEa t r):=
 ZDb iv op hd _ _ (by have:=iv.e0;omega)
theorem ZGb{t:Talk}(iv:CInv t.C):vzb t (zgb t):=by
 have hr:0<=(bif t.C.Whole then (4:Int) else 2)/\(bif t.C.Whole then (4:Int) else 2)<=4:=by cases t.C.Whole <;> decide
 exact ⟨jeb iv hr,⟨rfl,rfl,rfl⟩,zOb _ _,.inl rfl,by show t.Out.length<=_;omega⟩
theorem next_eq(t:Talk)(iv:CInv t.C)(op:COpn t.C)(ho:t.Out.length<=90000000000)(rest:Str)(hrest:(fl [] rest).1=[])(ls:List Str)(hb:(zIa ls++rest).length<=40000)(hn:∀x∈ls,noCR x=true):
 k9a (ses (tb t (zIa ls++rest)) (zia t.C.Mail.Message) (rawP t.C.Mail.Message))=some (match QNa [] ls with
  | .wait=>(false,ses (tb t (zIa ls++rest)) (zia t.C.Mail.Message) (rawP t.C.Mail.Message))
  | .broken=>(false,ses (tb (zgb t) (zIa ls++rest)) (zia t.C.Mail.Message) (rawP t.C.Mail.Message))
  | .said r q=>(true,ses (tb (kEa t r) (zIa q++rest)) (zia t.C.Mail.Message) (rawP t.C.Mail.Message))):=by
 unfold k9a;exact KZa (vCb t iv op ho rest hrest _ hb ls [] (by simp[zIa]) hn) rfl
theorem vDb(S:zca)(h:S.Client.Done=true):iter qZa S=some S:=by
 refine zOa ?_;unfold qZa;rw[h];rfl
theorem vEb(rest:Str)(hrest:(fl [] rest).1=[])(m:zua):∀(n:Nat) (ls:List Str) (t:Talk),ls.length<=n->CInv t.C->COpn t.C->t.C.Done=false->t.C.Mail=m->t.Out.length+900000 * ls.length<=90000000000->(zIa ls++rest).length<=40000->(∀x∈ls,noCR x=true)->
 ∃B,iter qZa (ses (tb t (zIa ls++rest)) (zia m.Message) (rawP m.Message))=some (ses (tb (runP t [] ls).1 B) (zia m.Message) (rawP m.Message))/\((runP t [] ls).1.C.Done=false->B=zIa (runP t [] ls).2++rest)/\B.length<=40000
 | n,ls,t,hn,iv,op,hd,hm,ho,hb,hc=>by
  subst hm;have hnx:=next_eq t iv op (by omega) rest hrest ls hb hc;rw[k9b];have vla:∀p:Bool × zca,k9a (ses (tb t (zIa ls++rest)) (zia t.C.Mail.Message) (rawP t.C.Mail.Message))=some p->
   qZa (ses (tb t (zIa ls++rest)) (zia t.C.Mail.Message) (rawP t.C.Mail.Message))=some (bif p.1 then .cont p.2 else .out p.2):=by
   intro p hp;unfold qZa;show (((bif (!t.C.Done) then _ else _:Option (Bool × zca))).bind _)=_;rw[hd,hp];show (bif p.1 then _ else _)=_;cases p.1 <;> rfl
  cases hs:QNa [] ls with
  | wait=>
   rw[hs]at hnx;exact ⟨zIa ls++rest,zOa (vla _ hnx),fun _=>rfl,hb⟩
  | broken=>
   rw[hs]at hnx;exact ⟨zIa ls++rest,zOa (vla _ hnx),fun h=>(by cases h),hb⟩
  | said r q=>
   rw[hs]at hnx;have hA:=Jra iv op hd r;obtain ⟨_,p,hp,hp1⟩:=vAb ls [] hs;rw[zYa (vla _ hnx)];dsimp only;by_cases hdn:(kEa t r).C.Done=true
   .rw[if_pos hdn];have hfl:(zIa ls).length=(zIa p).length+(zIa q).length:=by rw[hp,V5a];simp
    exact ⟨zIa q++rest,vDb _ hdn,fun h=>(by rw[hdn]at h;cases h),by simp only[jAl]at hb ⊢;omega⟩
   rw[if_neg hdn];rcases hA.opn with h | ⟨hd2,op2⟩
   .exact absurd h hdn
   have hl:ls.length=p.length+q.length:=by rw[hp];simp
   have hout:=hA.out;cases n with
   | zero=>omega
   | succ n=>
    have hfl:(zIa ls).length=(zIa p).length+(zIa q).length:=by rw[hp,V5a];simp
    have:=vEb rest hrest t.C.Mail n q (kEa t r) (by omega) hA.inv op2 hd2 hA.same.2.1 (by omega) (by simp only[jAl]at hb ⊢;omega) (fun x hx=>hc x (by rw[hp];simp[hx]));exact this
theorem inv_tb{t:Talk}(iv:CInv t.C)(b:Str):CInv (tb t b).C:=⟨⟨iv.good.name,iv.good.mail⟩,iv.len,iv.e0,iv.e1,iv.rng⟩
theorem opn_tb{t:Talk}(op:COpn t.C)(b:Str):COpn (tb t b).C:=⟨op.whole,op.nr,op.opn⟩
theorem heard_tb(t:Talk)(b:Str)(r:zra):kEa (tb t b) r=tb (kEa t r) b:=QAb t b _ _
theorem QHb(b:Str):∀(ls acc:List Str) (t:Talk),runP (tb t b) acc ls=(tb (runP t acc ls).1 b,(runP t acc ls).2)
 | [],acc,t=>rfl
 | x::r,acc,t=>by
  rw[runP,runP,heard_tb];by_cases hb:badL acc x
  .rw[if_pos hb,if_pos hb];rfl
  rw[if_neg hb,if_neg hb];by_cases hc:wUa (acc++ [x])=0
  .rw[if_pos hc,if_pos hc];by_cases hd:(kEa t (vha (acc++ [x])).1).C.Done=true
   .rw[if_pos (show (tb (kEa t (vha (acc++ [x])).1) b).C.Done=true from hd),if_pos hd]
   rw[if_neg (show ¬(tb (kEa t (vha (acc++ [x])).1) b).C.Done=true from hd),if_neg hd];exact QHb b r [] _
  rw[if_neg hc,if_neg hc];exact QHb b r _ t
def endB(p:Talk × List Str)(rest:Str):Talk:=tb p.1 (if p.1.C.Done=true then [] else zIa p.2++rest)
def fin(o:Talk ⊕ Talk):Talk:=Sum.elim (fun t=>tb t []) id o
def qRa(n:Str)(m:zua):zqa:=if !v3a n then ⟨10, -20⟩ else QMa m
structure QIb (c:zna):Prop where
 len:c.Results.length=c.Mail.Envelope.To.length
 rng:∀r∈c.Results,0<=r/\r<=4
 e0:0<=c.Expected
 e1:c.Expected<=(c.Mail.Envelope.To.length:Int)+4
 buf:c.Buffer.length<=40000
 opn:c.Done=false->COpn c
open Classical in
noncomputable def cliF(c:zna):zqa:=if (qRa c.Name c.Mail).Code≠0 then qRa c.Name c.Mail else if QIb c then ⟨0,0⟩ else ⟨5, -23⟩
structure Vpa (c:zna):Prop where
 name:c.Name.length<=1048576
 env:jFa c.Mail.Envelope
 msg:ypa c.Mail.Message
 res:c.Results.length<=1048576
 buf:c.Buffer.length<=1048576
theorem jgb(n:Str)(m:zua)(hn:n.length<=1048576)(h1:jFa m.Envelope)(h2:ypa m.Message):wNa n m=some (qRa n m):=by
 unfold wNa qRa;rw[jha n hn,WIa m h1 h2];cases v3a n <;> rfl
theorem Qza{n:Str}{m:zua}(h:(qRa n m).Code=0):v3a n=true/\(QMa m).Code=0:=by
 unfold qRa at h;cases hn:v3a n with
 | false=>rw[hn]at h;cases h
 | true=>rw[hn]at h;exact ⟨rfl,h⟩
theorem write_eq{m:zua}(h:(QMa m).Code=0)(h2:ypa m.Message):w9a m.Message=some (zia m.Message,⟨0,0⟩):=by
 have gm:=k1a h;unfold w9a;rw[wIa _ h2];simp only[jAc,zBa,zLa,(vlb h).2,Kka m.Message (by have:=gm.body;omega) gm.many60 gm.codes];rfl
theorem zQb{m:zua}(h:(QMa m).Code=0)(h2:ypa m.Message):vKa m.Message=some (zia m.Message,rawP m.Message):=by
 have gm:=k1a h;have:=gm.big;unfold vKa;rw[write_eq h h2];simp only[jAc];rw[Q4a _ (by omega)];rfl
def openB(c:zna):Bool:=(zPa (fun i x=>if decide (c.Expected<=(i:Int)+3) && x !=0 then some false else none) 0 c.Results).getD true
theorem QJb(c:zna):openB c=true↔∀(i:Nat) x,c.Results[i]? =some x->c.Expected<=(i:Int)+3->x=0:=by
 unfold openB;cases hf:zPa (fun i x=>if decide (c.Expected<=(i:Int)+3) && x !=0 then some false else none) 0 c.Results with
 | none=>
  refine ⟨fun _ i x hx h=>?_,fun _=>rfl⟩;have:=qia.1 hf i x hx;rw[jCs,decide_eq_true h]at this;simpa using this
 | some b=>
  obtain ⟨i,x,hx,hq⟩:=jDa hf;rw[jCs]at hq;split at hq
  .rename_i hc;cases hq;simp only[jAh,decide_eq_true_eq,bne_iff_ne]at hc;refine ⟨fun h=>(by cases h),fun h=>absurd (h i x hx hc.1) hc.2⟩
  cases hq
theorem Jsa(a b:Bool):(bif a then some false else some b:Option Bool)=some (!a && b):=by cases a <;> rfl
theorem open_eq(c:zna)(hs:Vpa c)(h:(QMa c.Mail).Code=0):∃b,jBa c=some b/\(b=true↔COpn c):=by
 have hm:=(k1a h).many;have hr:=hs.res;unfold jBa;rw[zQb h hs.msg];simp only[jAc];have e4:w64 ((c.Mail.Envelope.To.length:Int)+4)=(c.Mail.Envelope.To.length:Int)+4:=qwa (by omega) (by omega);have e3:w64 ((c.Mail.Envelope.To.length:Int)+3)=(c.Mail.Envelope.To.length:Int)+3:=qwa (by omega) (by omega);rw[e4,e3];have hloop:(iter (wva c) 0).bind (Sum.elim (fun b14=>some true) (fun b15=>some b15))=some (openB c):=by
  rw[kga c.Results (fun i x=>if decide (c.Expected<=(i:Int)+3) && x !=0 then some false else none) (.inl ()) .inr]
  .unfold openB;cases zPa (fun i x=>if decide (c.Expected<=(i:Int)+3) && x !=0 then some false else none) 0 c.Results <;> rfl
  .unfold wva;rw[kLa];rfl
  intro i x hx;have hi:=kla hx;unfold wva;rw[qQa hx,kma hx];simp only[cond_true,jAc,sc i (by omega),show w64 ((i:Int)+3)=(i:Int)+3 from qwa (by omega) (by omega)];cases decide (c.Expected<=(i:Int)+3) <;> cases x !=0 <;> rfl
 rw[hloop];have hj:((bif (c.Expected==((c.Mail.Envelope.To.length:Int)+4)) then (bif (c.Whole !=true) then some true else (bif rawP c.Mail.Message then some ((c.Expected==((c.Mail.Envelope.To.length:Int)+3))) else some false)) else (bif rawP c.Mail.Message then (bif c.Pipelined then (bif (c.Whole !=decide (2<=c.Expected)) then some true else some ((c.Expected==((c.Mail.Envelope.To.length:Int)+3)))) else (bif (c.Whole !=false) then some true else some ((c.Expected==((c.Mail.Envelope.To.length:Int)+3))))) else (bif (c.Whole !=false) then some true else some false))):Option Bool)=
  some ((c.Whole !=(decide (c.Expected=(c.Mail.Envelope.To.length:Int)+4) || (rawP c.Mail.Message && c.Pipelined && decide (2<=c.Expected)))) || (rawP c.Mail.Message && decide (c.Expected=(c.Mail.Envelope.To.length:Int)+3))):=by
  have b4:(c.Expected==((c.Mail.Envelope.To.length:Int)+4))=decide (c.Expected=(c.Mail.Envelope.To.length:Int)+4):=by rw[jAo];simp
  have b3:(c.Expected==((c.Mail.Envelope.To.length:Int)+3))=decide (c.Expected=(c.Mail.Envelope.To.length:Int)+3):=by rw[jAo];simp
  rw[b4,b3];cases decide (c.Expected=(c.Mail.Envelope.To.length:Int)+4) <;> cases rawP c.Mail.Message <;> cases c.Pipelined <;> cases decide (2<=c.Expected) <;> cases c.Whole <;> cases decide (c.Expected=(c.Mail.Envelope.To.length:Int)+3) <;> rfl
 rw[hj];simp only[jAc];have hbi:=QJb c;refine ⟨_,(Jsa _ _),?_⟩;rw[jAh,hbi];simp only[jCn,jCe,Bool.and_eq_false_iff,bne_eq_false_iff_eq,decide_eq_false_iff_not];constructor
 .rintro ⟨⟨h1,h2⟩,h3⟩;exact ⟨h1,fun ⟨a,b⟩=>h2.elim (fun h=>by rw[h]at a;cases a) (fun h=>h b),h3⟩
 intro o;refine ⟨⟨o.whole,?_⟩,o.opn⟩;cases hr:rawP c.Mail.Message with
 | false=>exact .inl rfl
 | true=>exact .inr fun h=>o.nr ⟨hr,h⟩
theorem jhb(c:zna)(hs:Vpa c):wOa c=some (cliF c):=by
 unfold wOa cliF;rw[jgb _ _ hs.name hs.env hs.msg];simp only[jAc,zBa,zAa,zLa];by_cases h0:(qRa c.Name c.Mail).Code=0
 .rw[if_neg (by simp[h0])];obtain ⟨hn,hml⟩:=Qza h0;have hm:=(k1a hml).many;have hr:=hs.res;rw[show ((qRa c.Name c.Mail).Code !=0)=false by simp[h0]];simp only[cond_false];have hloop:((iter (v2a c) 0).bind (Sum.elim (fun b10=>some ((-1))) (fun b11=>some b11)):Option Int)=some ((zPa (fun i x=>if (decide (x < 0) || decide (4 < x)) then some ((i:Nat):Int) else none) 0 c.Results).getD (-1)):=by
   rw[kga c.Results (fun i x=>if (decide (x < 0) || decide (4 < x)) then some ((i:Nat):Int) else none) (.inl ()) .inr]
   .simp only[jAc,kLb]
   .unfold v2a;rw[kLa];rfl
   intro i x hx;have hi:=kla hx;unfold v2a;rw[qQa hx,kma hx];simp only[cond_true,jAc,sc i (by omega)];cases decide (x < 0) <;> cases decide (4 < x) <;> rfl
  rw[hloop];simp only[jAc];rw[Y3a (fun x=>decide (x < 0) || decide (4 < x)) c.Results 0];obtain ⟨ob,ho,hoi⟩:=open_eq c hs hml;rw[ho,show w64 ((c.Mail.Envelope.To.length:Int)+4)=(c.Mail.Envelope.To.length:Int)+4 from qwa (by omega) (by omega)];have hj:∃j,((bif ((c.Results.length:Int) !=(c.Mail.Envelope.To.length:Int)) then some true else (bif (c.Results.any fun x=>decide (x < 0) || decide (4 < x)) then some true else (bif decide (c.Expected < 0) then some true else (bif decide ((c.Mail.Envelope.To.length:Int)+4 < c.Expected) then some true else (bif decide (40000 < (c.Buffer.length:Int)) then some true else (bif (!c.Done) then (some ob).bind fun v25=>some (!v25) else some false)))))):Option Bool)=some j/\(j=true↔¬QIb c):=by
   refine ⟨((c.Results.length:Int) !=(c.Mail.Envelope.To.length:Int)) || (c.Results.any fun x=>decide (x < 0) || decide (4 < x)) || decide (c.Expected < 0) || decide ((c.Mail.Envelope.To.length:Int)+4 < c.Expected) || decide (40000 < (c.Buffer.length:Int)) || (!c.Done && !ob),?_,?_⟩
   .cases ((c.Results.length:Int) !=(c.Mail.Envelope.To.length:Int)) <;> cases (c.Results.any fun x=>decide (x < 0) || decide (4 < x)) <;> cases decide (c.Expected < 0) <;> cases decide ((c.Mail.Envelope.To.length:Int)+4 < c.Expected) <;> cases decide (40000 < (c.Buffer.length:Int)) <;> cases c.Done <;> cases ob <;> rfl
   rw[<-Bool.not_eq_false,not_congr ?_];simp only[jCe,bne_eq_false_iff_eq,jCj,Bool.and_eq_false_iff,decide_eq_false_iff_not,Bool.not_eq_false'];constructor
   .rintro ⟨⟨⟨⟨⟨h1,h2⟩,h3⟩,h4⟩,h5⟩,h6⟩;refine ⟨by omega,fun r hr=>?_,by omega,by omega,by omega,fun hd=>?_⟩
    .have:=h2 r hr;simp only[jBs,decide_eq_true_eq]at this;omega
    rcases h6 with h6 | h6
    .rw[hd]at h6;cases h6
    exact hoi.1 h6
   intro v;have:=v.len;have:=v.e0;have:=v.e1;have:=v.buf;refine ⟨⟨⟨⟨⟨by omega,fun r hr=>?_⟩,by omega⟩,by omega⟩,by omega⟩,?_⟩
   .have:=v.rng r hr;simp only[jBs,decide_eq_true_eq];omega
   cases hd:c.Done with
   | true=>exact .inl rfl
   | false=>exact .inr (hoi.2 (v.opn hd))
  obtain ⟨j,hj1,hj2⟩:=hj;rw[hj1];simp only[jAc];cases j with
  | true=>rw[if_neg (hj2.1 rfl)];rfl
  | false=>rw[if_pos (Classical.byContradiction fun h=>by have:=hj2.2 h;cases this)];rfl
 rw[if_pos h0,show ((qRa c.Name c.Mail).Code !=0)=true by simpa using h0];rfl
theorem bindC{α β:Type}{o:Option α}{v:α}{f:α->Option β}{r:Option β}(h:o=some v)(h2:f v=r):o.bind f=r:=by rw[h];exact h2
theorem QKb(a b:List UInt8)(h:a.length+b.length<=35184372088832):kKa [a,b]=some (a++b):=by
 have l1:iter (kja [a,b]) (0,0)=some ((a.length+b.length:Nat):Int):=by
  have s1:kja [a,b] (0,0)=some (.cont ((a.length:Int),1)):=by
   show (bif decide (w64 ((0:Int)+(a.length:Int)) < 0) then none else some (Step.cont (w64 ((0:Int)+(a.length:Int)),w64 ((0:Int)+1))):Option (Step (Int × Int) Int))=_;rw[show w64 ((0:Int)+(a.length:Int))=(a.length:Int) by rw[qwa (by omega) (by omega)];omega,decide_eq_false (by omega)];rfl
  have s2:kja [a,b] ((a.length:Int),1)=some (.cont (((a.length+b.length:Nat):Int),2)):=by
   show (bif decide (w64 ((a.length:Int)+(b.length:Int)) < 0) then none else some (Step.cont (w64 ((a.length:Int)+(b.length:Int)),w64 ((1:Int)+1))):Option (Step (Int × Int) Int))=_;rw[W3a _ _ (by omega),decide_eq_false (by omega)];rfl
  rw[zYa s1,zYa s2];exact zOa rfl
 have hl2:∀s:List UInt8,s.length=0->iter (kka [a,b]) (0,s)=some (a++b):=by
  intro s hs;have hs0:s=[]:=jBy hs;subst hs0;have s1:kka [a,b] (0,[])=some (.cont (1,a)):=by
   show ((app 140737488355328 [] a).bind fun v20=>some (Step.cont (w64 ((0:Int)+1),v20)):Option (Step (Int × List UInt8) (List UInt8)))=_;rw[kRa (by simp;omega)];rfl
  have s2:kka [a,b] (1,a)=some (.cont (2,a++b)):=by
   show ((app 140737488355328 a b).bind fun v20=>some (Step.cont (w64 ((1:Int)+1),v20)):Option (Step (Int × List UInt8) (List UInt8)))=_;rw[kRa (by omega)];rfl
  rw[zYa s1,zYa s2];exact zOa rfl
 unfold kKa;rw[l1];simp only[jAc];rw[decide_eq_false (show ¬((a.length+b.length:Nat):Int) < 0 by omega),show w64 (((a.length+b.length:Nat):Int) - w64 (0 - 0))=((a.length+b.length:Nat):Int) by rw[show w64 (0 - 0)=0 from rfl,qwa (by omega) (by omega)];omega];simp only[cond_false];by_cases h0:a.length+b.length=0
 .rw[decide_eq_false (by omega)];have e1:a=[]:=jBy (by omega);have e2:b=[]:=jBy (by omega);subst e1;subst e2;simp only[cond_false];refine bindC (v:=[]) ?_ rfl;rw[zYa (show kVa [([]:List UInt8),[]] (0,[])=some (.cont (1,[])) from rfl),zYa (show kVa [([]:List UInt8),[]] (1,[])=some (.cont (2,[])) from rfl)];exact zOa rfl
 rw[decide_eq_true (by omega)];simp only[cond_true];unfold zrep;rw[if_pos (by omega)];simp only[jAc];rw[show cut (List.replicate ((a.length+b.length:Nat):Int).toNat (0:UInt8)) 0 0=some [] from (KNa (b:=0) (by simp)).trans (by simp)];simp only[jAc];rw[hl2 [] rfl];rfl
theorem jMa{α:Type}{lim:Nat}(l:List α)(h:l.length<=lim):(nilE l.isEmpty (some ([]:List α)) ((app lim ([]:List α) l).bind fun v=>some v))=some l:=by
 rw[kRa (by simpa using h)];simp only[jBm,jAc];exact qOb _ _ _ (fun he=>by rw[jDi.1 he])
theorem Jta(m:zua)(h1:jFa m.Envelope)(h2:ypa m.Message):vya m=some m:=by
 obtain ⟨_,_,h1,_⟩:=h1;obtain ⟨⟨h2,_⟩,h3⟩:=h2;unfold vya;rw[jMa m.Envelope.To (by omega)];simp only[jAc];rw[show z8a m.Message.Fields=some m.Message.Fields from jMa _ (by omega),jMa m.Message.Body (by omega)];rfl
theorem Jua(l:List Int)(h:l.length<=1048576):Y2a l l=some true:=by
 unfold Y2a;rw[show ((l.length:Int) !=(l.length:Int))=false by simp];simp only[cond_false];rw[kga l (fun _ _=>none) (.inl ()) .inr]
 .have:zPa (fun _ _=>(none:Option Bool)) 0 l=none:=by rw[qia];intro i x _;rfl
  rw[this];rfl
 .unfold VQa;rw[kLa];rfl
 intro i f hx;have hi:=kla hx;unfold VQa;rw[qQa hx,kma hx];simp only[cond_true,jAc,sc i (by omega)];simp
def QLb:zna:=⟨[],⟨⟨[],[],[]⟩,⟨[],[]⟩⟩,false,[],0,false,false,[]⟩
def zXa(c:zna)(d:List UInt8):Talk:=if c.Done=true then tb ⟨c,[]⟩ [] else endB (runP ⟨c,[]⟩ [] (fl [] (c.Buffer++d)).1) (fl [] (c.Buffer++d)).2
noncomputable def feedP(c:zna)(d:List UInt8):zna × List UInt8 × zqa:=
 if (cliF c).Code≠0 then (QLb,[],cliF c) else if 40000 < c.Buffer.length+d.length then (QLb,[],⟨1, -1⟩) else ((zXa c d).C,(zXa c d).Out,⟨0,0⟩)
structure QOa (c:zna):Prop where
 inv:CInv c
 opn:c.Done=false->COpn c
 buf:c.Buffer.length<=40000
 small:Vpa c
theorem cliF_ok{c:zna}(hs:Vpa c)(h:(cliF c).Code=0):QOa c/\cliF c=⟨0,0⟩:=by
 unfold cliF at h ⊢;by_cases h0:(qRa c.Name c.Mail).Code=0
 .rw[if_neg (by simp[h0])]at h ⊢;by_cases hv:QIb c
  .rw[if_pos hv];obtain ⟨hn,hm⟩:=Qza h0;exact ⟨⟨⟨⟨hn,hm⟩,hv.len,hv.e0,hv.e1,hv.rng⟩,hv.opn,hv.buf,hs⟩,rfl⟩
  rw[if_neg hv]at h;cases h
 rw[if_pos h0]at h;exact absurd h h0
theorem QMb{c:zna}(o:QOa c):cliF c=⟨0,0⟩:=by
 unfold cliF;have h0:(qRa c.Name c.Mail).Code=0:=by unfold qRa;rw[o.inv.good.name];exact o.inv.good.mail
 rw[if_neg (by simp[h0]),if_pos ⟨o.inv.len,o.inv.rng,o.inv.e0,o.inv.e1,o.buf,o.opn⟩]
theorem QNb{c:zna}(o:QOa c){d:List UInt8}(h:c.Buffer.length+d.length<=40000):(zIa (fl [] (c.Buffer++d)).1++(fl [] (c.Buffer++d)).2)=c.Buffer++d/\(zIa (fl [] (c.Buffer++d)).1++(fl [] (c.Buffer++d)).2).length<=40000/\(fl [] (c.Buffer++d)).1.length<=20000:=by
 have hj:=V3a (c.Buffer++d);have hl:(zIa (fl [] (c.Buffer++d)).1++(fl [] (c.Buffer++d)).2).length<=40000:=by rw[hj];simp;omega
 refine ⟨hj,hl,?_⟩;have:=Jqa (fl [] (c.Buffer++d)).1;simp only[jAl]at hl;omega
theorem feed_eq(c:zna)(d:List UInt8)(hs:Vpa c)(hd:d.length<=2097152):jCa c d=some (feedP c d):=by
 have hb:=hs.buf;unfold jCa feedP;rw[jhb c hs];simp only[jAc,zBa,zAa,zLa];by_cases h0:(cliF c).Code=0
 .rw[show ((cliF c).Code !=0)=false by simp[h0],if_neg (by simp[h0])];obtain ⟨o,_⟩:=cliF_ok hs h0;simp only[cond_false];rw[W3a _ _ (by omega)];by_cases h4:40000 < c.Buffer.length+d.length
  .rw[if_pos h4,decide_eq_true (show (40000:Int) < ((c.Buffer.length+d.length:Nat):Int) by omega)];rfl
  rw[if_neg h4,decide_eq_false (show ¬(40000:Int) < ((c.Buffer.length+d.length:Nat):Int) by omega)];simp only[cond_false];rw[Jta _ hs.env hs.msg];simp only[jAc];rw[show kMa c.Results=some c.Results from jMa _ (by have:=hs.res;omega),QKb _ _ (by omega)];simp only[jAc];rw[zQb o.inv.good.mail hs.msg];simp only[jAc];obtain ⟨hj,hl,hc⟩:=QNb o (d:=d) (by omega);have hS:(zca.mk (zna.mk c.Name c.Mail c.Pipelined (c.Buffer++d) c.Expected c.Whole c.Done c.Results) (zia c.Mail.Message) (rawP c.Mail.Message) ([]:List UInt8))=ses (tb ⟨c,[]⟩ (zIa (fl [] (c.Buffer++d)).1++(fl [] (c.Buffer++d)).2)) (zia c.Mail.Message) (rawP c.Mail.Message):=by rw[hj];rfl
  rw[hS];cases hdn:c.Done with
  | true=>
   rw[vDb _ hdn];simp only[jAc];unfold zXa;rw[if_pos hdn];refine KZa (v:=ses (tb ⟨c,[]⟩ []) (zia c.Mail.Message) (rawP c.Mail.Message)) (KZa (jMa (zIa (fl [] (c.Buffer++d)).1++(fl [] (c.Buffer++d)).2) (by omega)) ?_) rfl;show (bif c.Done then _ else _)=_;rw[hdn];rfl
  | false=>
   obtain ⟨B,h1,h2,h3⟩:=vEb (fl [] (c.Buffer++d)).2 (fl_tail _) c.Mail _ (fl [] (c.Buffer++d)).1 ⟨c,[]⟩ (jAn _) o.inv (o.opn hdn) hdn rfl (by show 0+_<=_;omega) hl (K0a _);rw[h1];simp only[jAc];unfold zXa endB;rw[if_neg (by rw[hdn];decide)];refine KZa (v:=ses (tb (runP ⟨c,[]⟩ [] (fl [] (c.Buffer++d)).1).1 (if (runP ⟨c,[]⟩ [] (fl [] (c.Buffer++d)).1).1.C.Done=true then [] else zIa (runP ⟨c,[]⟩ [] (fl [] (c.Buffer++d)).1).2++(fl [] (c.Buffer++d)).2)) (zia c.Mail.Message) (rawP c.Mail.Message)) (KZa (jMa B (by omega)) ?_) rfl;show (bif (runP ⟨c,[]⟩ [] (fl [] (c.Buffer++d)).1).1.C.Done then _ else _)=_;cases hd2:(runP ⟨c,[]⟩ [] (fl [] (c.Buffer++d)).1).1.C.Done with
   | true=>rw[if_pos rfl];rfl
   | false=>rw[if_neg (by decide),<-h2 hd2];rfl
 rw[show ((cliF c).Code !=0)=true by simpa using h0,if_pos h0];rfl
def closedC(c:zna):zna:=(tb (zgb ⟨c,[]⟩) []).C
noncomputable def QOb(c:zna):zna × zqa:=if (cliF c).Code≠0 then (QLb,cliF c) else (closedC c,⟨0,0⟩)
theorem close_eq(c:zna)(hs:Vpa c):yTa c=some (QOb c):=by
 unfold yTa QOb;rw[jhb c hs];simp only[jAc,zBa,zAa,zLa];by_cases h0:(cliF c).Code=0
 .rw[show ((cliF c).Code !=0)=false by simp[h0],if_neg (by simp[h0])];simp only[cond_false];rw[Jta _ hs.env hs.msg];simp only[jAc];rw[show kMa c.Results=some c.Results from jMa _ (by have:=hs.res;omega)];simp only[jAc];exact KZa (QGb (tb ⟨c,[]⟩ []) [] false (by exact hs.res)) rfl
 rw[show ((cliF c).Code !=0)=true by simpa using h0,if_pos h0];rfl
def kFa(n:Str)(m:zua)(p:Bool):zna:=⟨n,m,p,[],0,false,false,List.replicate m.Envelope.To.length 0⟩
def zRb(n:Str)(m:zua)(p:Bool):zna × zqa:=if (qRa n m).Code≠0 then (QLb,qRa n m) else (kFa n m p,⟨0,0⟩)
theorem zmk_eq{α:Type}{lim n:Nat}(z:α)(h:n<=lim):zmk lim (n:Int) z=some (List.replicate n z):=by
 unfold zmk;rw[if_pos (by omega)];simp
theorem jib(n:Str)(m:zua)(p:Bool)(hn:n.length<=1048576)(h1:jFa m.Envelope)(h2:ypa m.Message):ySa n m p=some (zRb n m p):=by
 unfold ySa zRb;rw[jgb n m hn h1 h2];simp only[jAc,zBa,zAa,zLa];by_cases h0:(qRa n m).Code=0
 .rw[show ((qRa n m).Code !=0)=false by simp[h0],if_neg (by simp[h0])];simp only[cond_false];rw[Jta _ h1 h2];simp only[jAc];obtain ⟨_,_,h3,_⟩:=h1;rw[zmk_eq _ (by omega)];rfl
 rw[show ((qRa n m).Code !=0)=true by simpa using h0,if_pos h0];rfl
structure Ran (t:Talk) (ls:List Str) (p:Talk × List Str):Prop where
 inv:CInv p.1.C
 same:p.1.C.Name=t.C.Name/\p.1.C.Mail=t.C.Mail/\p.1.C.Pipelined=t.C.Pipelined
 stays:zfb t.C.Results p.1.C.Results
 opn:p.1.C.Done=true∨(p.1.C.Done=false/\COpn p.1.C)
 tail:∃q,ls=q++p.2
theorem ran_mono{t u:Talk}{ls q:List Str}{p:Talk × List Str}(h:vzb t u)(r:Ran u q p)(hq:∃z,ls=z++q):Ran t ls p:=by
 obtain ⟨z,hz⟩:=hq;obtain ⟨y,hy⟩:=r.tail;exact ⟨r.inv,⟨r.same.1.trans h.same.1,r.same.2.1.trans h.same.2.1,r.same.2.2.trans h.same.2.2⟩,Jna h.stays r.stays,r.opn,z++y,by rw[hz,hy];simp⟩
theorem Jva:∀(ls acc:List Str) (t:Talk),CInv t.C->COpn t.C->t.C.Done=false->Ran t (acc++ls) (runP t acc ls)
 | [],acc,t,iv,op,hd=>⟨iv,⟨rfl,rfl,rfl⟩,joa _,.inr ⟨hd,op⟩,[],by simp[runP]⟩
 | x::r,acc,t,iv,op,hd=>by
  rw[runP];have hl:=ZGb iv;have hh:=Jra iv op hd (vha (acc++ [x])).1;by_cases hb:badL acc x
  .rw[if_pos hb];exact ⟨hl.inv,hl.same,hl.stays,.inl rfl,acc++x::r,by simp⟩
  rw[if_neg hb];by_cases hc:wUa (acc++ [x])=0
  .rw[if_pos hc];by_cases hdn:(kEa t (vha (acc++ [x])).1).C.Done=true
   .rw[if_pos hdn];exact ⟨hh.inv,hh.same,hh.stays,.inl hdn,acc++x::r,by simp⟩
   rw[if_neg hdn];rcases hh.opn with h | ⟨hd2,op2⟩
   .exact absurd h hdn
   exact ran_mono hh (Jva r [] _ hh.inv op2 hd2) ⟨acc++ [x],by simp⟩
  rw[if_neg hc];have:=Jva r (acc++ [x]) t iv op hd;simpa using this
theorem Jwa{c:zna}(o:QOa c){d:List UInt8}(h4:c.Buffer.length+d.length<=40000):
 QOa (zXa c d).C/\zfb c.Results (zXa c d).C.Results/\(zXa c d).C.Buffer.length<=c.Buffer.length+d.length/\((zXa c d).C.Done=true->(zXa c d).C.Buffer=[]):=by
 obtain ⟨hj,hl,hc⟩:=QNb o (d:=d) h4;have small:∀u:zna,u.Name=c.Name->u.Mail=c.Mail->u.Results.length=u.Mail.Envelope.To.length->u.Buffer.length<=40000->Vpa u:=by
  intro u h1 h2 h3 h5;have:=(k1a o.inv.good.mail).many;exact ⟨by rw[h1];exact o.small.name,by rw[h2];exact o.small.env,by rw[h2];exact o.small.msg,by rw[h3,h2];omega,by omega⟩
 unfold zXa;cases hdn:c.Done with
 | true=>
  rw[if_pos rfl];exact ⟨⟨inv_tb (t:=⟨c,[]⟩) o.inv [],fun h=>(by rw[show (tb ⟨c,[]⟩ []).C.Done=c.Done from rfl,hdn]at h;cases h),(by show 0<=40000;omega),small _ rfl rfl o.inv.len (by show 0<=40000;omega)⟩,joa _,by show 0<=_;omega,fun _=>rfl⟩
 | false=>
  rw[if_neg (by decide)];have r:=Jva (fl [] (c.Buffer++d)).1 [] ⟨c,[]⟩ o.inv (o.opn hdn) hdn;generalize runP ⟨c,[]⟩ [] (fl [] (c.Buffer++d)).1=p at r;obtain ⟨q,hq⟩:=r.tail;have hfl:(zIa (fl [] (c.Buffer++d)).1).length=(zIa q).length+(zIa p.2).length:=by
   rw[jBm]at hq;have:=congrArg (fun l=>(zIa l).length) hq;simp only[V5a,jAl]at this;exact this
  have hjl:=congrArg List.length hj;simp only[jAl]at hjl hl;have hB:(endB p (fl [] (c.Buffer++d)).2).C.Buffer.length<=c.Buffer.length+d.length:=by
   show (if p.1.C.Done=true then [] else zIa p.2++(fl [] (c.Buffer++d)).2).length<=_;split
   .show 0<=_;omega
   simp only[jAl];omega
  refine ⟨⟨inv_tb r.inv _,fun h=>?_,by omega,small _ r.same.1 r.same.2.1 r.inv.len (by omega)⟩,r.stays,hB,fun h=>?_⟩
  .rcases r.opn with h2 | ⟨_,h2⟩
   .rw[show (endB p (fl [] (c.Buffer++d)).2).C.Done=p.1.C.Done from rfl,h2]at h;cases h
   exact opn_tb h2 _
  show (if p.1.C.Done=true then [] else _)=_;rw[if_pos (show p.1.C.Done=true from h)]
def pre(o:List UInt8)(t:Talk):Talk:=⟨t.C,o++t.Out⟩
theorem QAa(o x:List UInt8)(c:zfa):Z9a (o++x) c=o++Z9a x c:=by unfold Z9a;simp
theorem QPb(o:List UInt8)(t:Talk)(k:Nat):askP (pre o t) k=pre o (askP t k):=by
 unfold askP;by_cases k1:k=1
 .rw[if_pos k1,if_pos k1];unfold pre;rw[QAa]
 rw[if_neg k1,if_neg k1];by_cases k2:k=2
 .rw[if_pos k2,if_pos k2];unfold pre;rw[QAa]
 rw[if_neg k2,if_neg k2];unfold pre;dsimp only;cases t.C.Mail.Envelope.To[k - 3]? with
 | some r=>dsimp only;rw[QAa]
 | none=>
  dsimp only;cases rawP t.C.Mail.Message with
  | true=>rw[if_pos rfl,if_pos rfl,QAa];simp
  | false=>rw[if_neg (by decide),if_neg (by decide),QAa]
theorem jjb(o:List UInt8):∀(m k:Nat) (t:Talk),jia m k (pre o t)=pre o (jia m k t)
 | 0,_,_=>rfl
 | m+1,k,t=>by show jia m (k+1) (askP (pre o t) k)=_;rw[QPb,jjb o m];rfl
theorem on1_pre(o:List UInt8)(t:Talk)(e:Nat):onP1 (pre o t) e=pre o (onP1 t e):=by
 unfold onP1;show (if t.C.Pipelined=false∨e=0 then askP (pre o (setE t ((e+1:Nat):Int))) (e+1) else if e=1 then jia (many t+2) 2 (pre o (setE t ((e+1:Nat):Int))) else pre o (setE t ((e+1:Nat):Int)))=_;rw[QPb,jjb];split
 .rfl
 split <;> rfl
theorem zSb(o:List UInt8)(t:Talk)(e:Nat):qDa (pre o t) e=pre o (qDa t e):=by
 unfold qDa;rw[on1_pre];show (if e+1=many t+3/\rawP t.C.Mail.Message=true then _ else _)=_;split <;> rfl
theorem K1a(o:List UInt8)(t:Talk)(r:Int):KYa (pre o t) r=pre o (KYa t r):=by
 unfold KYa;show (⟨(Qtb t r).C,Z9a (o++t.Out) vtb⟩:Talk)=_;rw[QAa];rfl
theorem rcpt_pre(o:List UInt8)(t:Talk)(k:Int)(e:Nat):qta (pre o t) k e=pre o (qta t k e):=by
 unfold qta;split <;> rfl
theorem body_pre(o:List UInt8)(t:Talk):Qwb (pre o t)=pre o (Qwb t):=by
 unfold Qwb pre;simp only[jAx];rfl
theorem hear_pre(o:List UInt8)(t:Talk)(k:Int)(e:Nat):Kaa (pre o t) k e=pre o (Kaa t k e):=by
 unfold Kaa;rw[rcpt_pre];by_cases c1:e<=2
 .rw[if_pos c1,if_pos c1];by_cases hk:k=2
  .rw[if_pos hk,if_pos hk,zSb]
  rw[if_neg hk,if_neg hk,K1a]
 rw[if_neg c1,if_neg c1];by_cases c2:e<=many t+2
 .rw[if_pos (show e<=many (pre o t)+2 from c2),if_pos c2];by_cases c3:e=many t+2/\t.C.Pipelined=false/\anyO (qta t k e).C.Results=false
  .rw[if_pos (show e=many (pre o t)+2/\(pre o t).C.Pipelined=false/\anyO (pre o (qta t k e)).C.Results=false from c3),if_pos c3,K1a]
  rw[if_neg (show ¬(e=many (pre o t)+2/\(pre o t).C.Pipelined=false/\anyO (pre o (qta t k e)).C.Results=false) from c3),if_neg c3,zSb]
 rw[if_neg (show ¬e<=many (pre o t)+2 from c2),if_neg c2];by_cases c3:e=many t+3
 .rw[if_pos (show e=many (pre o t)+3 from c3),if_pos c3];by_cases hk:k=3
  .rw[if_pos hk,if_pos hk];by_cases ha:anyO t.C.Results=false
   .rw[if_pos (show anyO (pre o t).C.Results=false from ha),if_pos ha];rfl
   rw[if_neg (show ¬anyO (pre o t).C.Results=false from ha),if_neg ha,body_pre]
  rw[if_neg hk,if_neg hk,K1a]
 rw[if_neg (show ¬e=many (pre o t)+3 from c3),if_neg c3];by_cases hk:k=2
 .rw[if_pos hk,if_pos hk,K1a]
 rw[if_neg hk,if_neg hk,K1a]
theorem vFb(o:List UInt8)(t:Talk)(r:zra):kEa (pre o t) r=pre o (kEa t r):=hear_pre o t _ _
theorem ygb(o:List UInt8):∀(ls acc:List Str) (t:Talk),runP (pre o t) acc ls=(pre o (runP t acc ls).1,(runP t acc ls).2)
 | [],acc,t=>rfl
 | x::r,acc,t=>by
  rw[runP,runP,vFb];by_cases hb:badL acc x
  .rw[if_pos hb,if_pos hb];rfl
  rw[if_neg hb,if_neg hb];by_cases hc:wUa (acc++ [x])=0
  .rw[if_pos hc,if_pos hc];by_cases hd:(kEa t (vha (acc++ [x])).1).C.Done=true
   .rw[if_pos (show (pre o (kEa t (vha (acc++ [x])).1)).C.Done=true from hd),if_pos hd]
   rw[if_neg (show ¬(pre o (kEa t (vha (acc++ [x])).1)).C.Done=true from hd),if_neg hd];exact ygb o r [] _
  rw[if_neg hc,if_neg hc];exact ygb o r _ t
theorem yhb(ms:List Str):∀(ls acc:List Str) (t:Talk),t.C.Done=false->runP t acc (ls++ms)=if (runP t acc ls).1.C.Done=true then runP t acc ls else runP (runP t acc ls).1 (runP t acc ls).2 ms
 | [],acc,t,hd=>by rw[jBm,runP,if_neg (by rw[hd];decide)]
 | x::r,acc,t,hd=>by
  rw[jBu,runP,runP];by_cases hb:badL acc x
  .rw[if_pos hb,if_pos hb,if_pos (show (zgb t).C.Done=true from rfl)]
  rw[if_neg hb,if_neg hb];by_cases hc:wUa (acc++ [x])=0
  .rw[if_pos hc,if_pos hc];by_cases hd2:(kEa t (vha (acc++ [x])).1).C.Done=true
   .rw[if_pos hd2,if_pos hd2,if_pos hd2]
   rw[if_neg hd2,if_neg hd2];exact yhb ms r [] _ (by simpa using hd2)
  rw[if_neg hc,if_neg hc];exact yhb ms r _ t hd
def ZHb(l:List Str):Prop:=∀p x q,l=p++x::q->¬badL p x/\wUa (p++ [x])≠0
theorem QQb{l:List Str}{x:Str}(h:ZHb l)(h1:¬badL l x)(h2:wUa (l++ [x])≠0):ZHb (l++ [x]):=by
 intro p y q he;rcases List.eq_nil_or_concat q with rfl | ⟨q',z,rfl⟩
 .have:=List.append_inj' he rfl;obtain ⟨rfl,h3⟩:=this;cases h3;exact ⟨h1,h2⟩
 have:l++ [x]=(p++y::q')++ [z]:=by rw[he];simp
 exact h p y q' (List.append_inj' this rfl).1
theorem qab:∀(ls acc:List Str) (t:Talk),ZHb acc->ZHb (runP t acc ls).2
 | [],acc,t,h=>h
 | x::r,acc,t,h=>by
  have hn:ZHb []:=fun p y q he=>by simp at he
  rw[runP];by_cases hb:badL acc x
  .rw[if_pos hb];exact hn
  rw[if_neg hb];by_cases hc:wUa (acc++ [x])=0
  .rw[if_pos hc];by_cases hd2:(kEa t (vha (acc++ [x])).1).C.Done=true
   .rw[if_pos hd2];exact hn
   rw[if_neg hd2];exact qab r [] _ hn
  rw[if_neg hc];exact qab r _ t (QQb h hb hc)
theorem vGb(t:Talk)(ls:List Str):∀(q p:List Str),ZHb (p++q)->runP t p (q++ls)=runP t (p++q) ls
 | [],p,h=>by simp
 | x::q,p,h=>by
  obtain ⟨h1,h2⟩:=h p x q rfl;rw[jBu,runP,if_neg h1,if_neg h2,vGb t ls q (p++ [x]) (by simpa using h)];simp
theorem jpa{c:zna}(o:QOa c){a b:List UInt8}:zXa c (a++b)=pre (zXa c a).Out (zXa (zXa c a).C b):=by
 unfold zXa;cases hdn:c.Done with
 | true=>rw[if_pos rfl,if_pos rfl,if_pos (show (tb ⟨c,[]⟩ []).C.Done=true from hdn)];rfl
 | false=>
  rw[if_neg (by decide),if_neg (by decide)];have hm:=fl_more (c.Buffer++a) b;rw[jAx]at hm;rw[hm];dsimp only;have r:=Jva (fl [] (c.Buffer++a)).1 [] ⟨c,[]⟩ o.inv (o.opn hdn) hdn;have hct:=qab (fl [] (c.Buffer++a)).1 [] ⟨c,[]⟩ (fun p y q he=>by simp at he);rw[yhb _ _ _ _ hdn];have hno:∀x∈(runP ⟨c,[]⟩ [] (fl [] (c.Buffer++a)).1).2,noCR x=true:=by
   obtain ⟨q,hq⟩:=r.tail;intro x hx;refine K0a (c.Buffer++a) x ?_;rw[jBm]at hq;rw[hq];simp[hx]
  generalize runP ⟨c,[]⟩ [] (fl [] (c.Buffer++a)).1=p at r hct hno;generalize (fl [] (c.Buffer++a)).2=rest;by_cases hd:p.1.C.Done=true
  .rw[if_pos hd,if_pos (show (endB p rest).C.Done=true from hd)];unfold endB;rw[if_pos hd,if_pos hd];show _=pre p.1.Out (tb ⟨(tb p.1 []).C,[]⟩ []);unfold pre tb;simp
  rw[if_neg hd,if_neg (show ¬(endB p rest).C.Done=true from hd)];have hB:(endB p rest).C.Buffer=zIa p.2++rest:=by show (if p.1.C.Done=true then [] else zIa p.2++rest)=_;rw[if_neg hd]
  rw[hB,jAx,Jpa p.2 hno];dsimp only;rw[vGb _ _ p.2 [] (by simpa using hct),jBm];have e1:(⟨(endB p rest).C,[]⟩:Talk)=tb ⟨p.1.C,[]⟩ (zIa p.2++rest):=by rw[<-hB];rfl
  have e2:p.1=pre p.1.Out ⟨p.1.C,[]⟩:=by unfold pre;simp
  have e3:(endB p rest).Out=p.1.Out:=rfl;rw[e1,QHb,e3]
  conv=>lhs;rw[e2,ygb]
  rfl
theorem start_ok{n:Str}{m:zua}{p:Bool}(h:(qRa n m).Code=0)(hn:n.length<=1048576)(h1:jFa m.Envelope)(h2:ypa m.Message):QOa (kFa n m p):=by
 obtain ⟨a,b⟩:=Qza h;have hm:=(k1a b).many;refine ⟨⟨⟨a,b⟩,by show (List.replicate _ _).length=_;simp[kFa],jDg 0,by show (0:Int)<=(m.Envelope.To.length:Int)+4;omega,fun r hr=>?_⟩,fun _=>⟨?_,?_,fun i x hx _=>?_⟩,by show 0<=40000;omega,⟨hn,h1,h2,by show (List.replicate _ _).length<=_;simp;omega,by show 0<=_;omega⟩⟩
 .rw[(jEg.1 hr).2];decide
 .show false=(decide ((0:Int)=(m.Envelope.To.length:Int)+4) || (rawP m.Message && p && decide ((2:Int)<=0)));rw[decide_eq_false (by omega),decide_eq_false (show ¬(2:Int)<=0 by decide)];simp
 .rintro ⟨_,h⟩;have h' :(0:Int)=(m.Envelope.To.length:Int)+3:=h;omega
 exact (jEg.1 (jAi hx)).2
def sM:zua:=⟨⟨[115,64,120],[⟨[97,64,121],1⟩],[55]⟩,⟨[],[]⟩⟩
theorem QRb:Z6a [[97,64,121]]=some sM:=by
 unfold Z6a;rw[zYa (show Z5a [[97,64,121]] (0,[])=some (.cont (1,[⟨[97,64,121],1⟩])) from rfl)];rw[zOa (show Z5a [[97,64,121]] (1,[⟨[97,64,121],1⟩])=some (.out [⟨[97,64,121],1⟩]) from rfl)];rfl
theorem sM_small:jFa sM.Envelope/\ypa sM.Message:=
 ⟨⟨by decide,by decide,by decide,fun a ha=>by
  have:∀a∈sM.Envelope.To,a.Address.length<=1048576:=by decide
  exact this a ha⟩,⟨by decide,fun f hf=>by cases hf⟩,by decide⟩
def d1:List UInt8:=[50,50,48,32,109,120,13,10]
def d2:List UInt8:=[50,53,48,45,109,120,13,10,50,53,48,32,111,107,13,10]
theorem feedP_ok{c:zna}(o:QOa c){d:List UInt8}(h:c.Buffer.length+d.length<=40000):feedP c d=((zXa c d).C,(zXa c d).Out,⟨0,0⟩):=by
 unfold feedP;rw[QMb o,if_neg (by simp),if_neg (by omega)]
theorem jkb{u:Nat}(h1:200<=u)(h2:u<=599)(d:UInt8)(hd:d=45∨d=32)(x:Str)(hx:x.any rlnC=false):rdQ (dig3 u++d::x)=some u:=by
 obtain ⟨hn,ha,he⟩:=zLb h1 h2;unfold dig3 at *;generalize UInt8.ofNat (48+u / 100)=a at *;generalize UInt8.ofNat (48+u / 10 % 10)=b at *;generalize UInt8.ofNat (48+u % 10)=c at *;have hn' :num3 a b c=u:=hn;simp only[List.all_cons,List.all_nil,jEh,jAh]at ha;simp only[jDl,List.any_nil,Bool.or_false,jCe]at he;have hdr:rlnC d=false:=by rcases hd with rfl | rfl <;> rfl
 have hd2:(d==45 || d==32)=true:=by rcases hd with rfl | rfl <;> rfl
 show rdQ (a::b::c::d::x)=some u;have hr:rdQ (a::b::c::d::x)=if (d==45 || d==32) && (digC a && digC b && digC c) && !((a::b::c::d::x).any rlnC) && (decide (200<=num3 a b c) && decide (num3 a b c<=599)) then some (num3 a b c) else none:=rfl;rw[hr,hd2,ha.1,ha.2.1,ha.2.2,jDl,jDl,jDl,jDl,he.1,he.2.1,he.2.2,hdr,hx,hn'];simp[h1,h2]
theorem QSb(u:Nat)(d:UInt8)(x:Str):(dig3 u++d::x)[3]? =some d:=rfl
theorem vHb(u:Nat)(d:UInt8)(x:Str):(dig3 u++d::x).drop 4=x:=rfl
theorem QBa(u:Nat)(d:UInt8)(x:Str):(dig3 u++d::x).length=x.length+4:=by simp[dig3]
theorem vIb{u:Nat}(h1:200<=u)(h2:u<=599)(tail:List Str):∀(xs:List Str) (i:Nat) (acc:List Str) (prev:Int),(∀s∈xs,s.length<=500/\s.any rlnC=false)->i+xs.length<=20->(i=0∨prev=u)->
 ∃prev',(i+xs.length=0∨prev' =(u:Int))/\parP (xs.map (fun x=>dig3 u++45::x)++tail) i acc prev=parP tail (i+xs.length) (acc++xs) prev' :=by
 intro xs;induction xs with
 | nil=>intro i acc prev _ _ hp;exact ⟨prev,by simpa using hp,by simp⟩
 | cons x xs ih=>
  intro i acc prev hx hi hp;obtain ⟨hx1,hx2⟩:=hx x jDt;simp only[jAu]at hi;obtain ⟨prev',h3,h4⟩:=ih (i+1) (acc++ [x]) u (fun s hs=>hx s (jDo _ hs)) (by omega) (Or.inr rfl);refine ⟨prev',Or.inr (h3.resolve_left (by omega)),?_⟩;rw[jCh,jBu,parP,if_neg (by omega),jkb h1 h2 45 (Or.inl rfl) x hx2];dsimp only;rw[if_neg (by rw[QBa];omega),if_neg (by rcases hp with h | h <;> simp[h]),QSb,if_neg (by decide),vHb,h4];simp only[jAu]
  congr 1
  .omega
  simp
theorem QTb{α:Type}:∀{l:List α},1<=l.length->∃ys y,l=ys++ [y]
 | l,h=>⟨l.dropLast,l.getLast (by intro e;rw[e]at h;simp at h),(List.dropLast_concat_getLast _).symm⟩
theorem yib{u:Nat}(h1:200<=u)(h2:u<=599)(ys:List Str)(h:∀s∈ys,s.length<=500/\s.any rlnC=false)(hl:ys.length<=20):vha (ys.map fun x=>dig3 u++45::x)=(⟨0,[]⟩,0,⟨9, -2⟩):=by
 unfold vha;rw[if_neg (by simp;omega)];obtain ⟨prev',_,h4⟩:=vIb h1 h2 [] ys 0 [] 0 h (by omega) (Or.inl rfl);rw[jBj]at h4;rw[h4];rfl
theorem yjb{u:Nat}(h1:200<=u)(h2:u<=599)(ys:List Str)(y:Str)(tail:List Str)(h:∀s∈ys++ [y],s.length<=500/\s.any rlnC=false)(hl:ys.length < 20)(ht:tail.length<=100):
 vha (prn (dig3 u) (ys++ [y])++tail)=(⟨u,ys++ [y]⟩,((ys.length+1:Nat):Int),⟨0,0⟩):=by
 have hy:=h y (by simp);unfold vha;rw[if_neg (by simp[yab];omega),V1a];obtain ⟨prev',h3,h4⟩:=vIb h1 h2 ([dig3 u++32::y]++tail) ys 0 [] 0 (fun s hs=>h s (by simp[hs])) (by omega) (Or.inl rfl);rw[jAx,h4,List.singleton_append,parP,if_neg (by omega),jkb h1 h2 32 (Or.inr rfl) y hy.2];dsimp only;rw[if_neg (by rw[QBa];omega),if_neg (by rcases h3 with h | h <;> simp[h] <;> omega),QSb,if_pos rfl,vHb];simp
theorem QUb{u:Nat}(ls:List Str)(h:∀s∈ls,s.length<=500):∀s∈prn (dig3 u) ls,s.length<=504:=by
 rcases jEf ls.length with h0 | h0
 .rw[jDc.1 h0];intro s hs;cases hs
 obtain ⟨ys,y,rfl⟩:=QTb h0;rw[V1a];intro s hs;rw[jCc,jCd,jBi]at hs;rcases hs with ⟨x,hx,rfl⟩ | rfl
 .have:=h x (by simp[hx]);rw[QBa];omega
 have:=h y (by simp);rw[QBa];omega
def repB(r:zra):List UInt8:=zIa (prn (dig3 r.Code.toNat) r.Lines)
def q0a(l:List zra):List UInt8:=l.flatMap repB
theorem wwa(a b:List zra):q0a (a++b)=q0a a++q0a b:=List.flatMap_append
theorem yYa(r:zra):q0a [r]=repB r:=by unfold q0a;simp
theorem jlb:∀{x:Str},x.any rlnC=false->noCR x=true
 | [],_=>rfl
 | [_],_=>rfl
 | c::d::r,h=>by
  rw[jDl,jCe]at h;refine vLa.2 ⟨?_,jlb h.2⟩;rintro ⟨rfl,rfl⟩;exact absurd h.1 (by decide)
theorem prn_noCR{r:zra}(h:ROk r):∀x∈prn (dig3 r.Code.toNat) r.Lines,noCR x=true:=by
 obtain ⟨⟨u,hu,h1,h2⟩,hl,hx⟩:=h;have hd:=(zLb h1 h2).2.2;have key:∀l:List Str,(∀s∈l,s.any rlnC=false)->∀x∈prn (dig3 u) l,noCR x=true:=by
  intro l;induction l with
  | nil=>intro _ x hx;cases hx
  | cons y r ih=>
   intro hs x hx;rw[k2b]at hx;rcases jBh.1 hx with rfl | hx
   .refine jlb ?_;rw[List.any_append,hd,jDl,hs y (by simp)];split <;> rfl
   exact ih (fun s h=>hs s (by simp[h])) x hx
 have:r.Code.toNat=u:=by omega
 rw[this];exact key r.Lines fun s hs=>(hx s hs).2
theorem ZIb{r:zra}(h:ROk r):QNa [] (prn (dig3 r.Code.toNat) r.Lines)=.said r []:=by
 have h0:=h;obtain ⟨⟨u,hu,h1,h2⟩,hl,hx⟩:=h;have e0:r.Code.toNat=u:=by omega
 rw[e0];obtain ⟨ys,y,hy⟩:=QTb hl.1;have hyl:ys.length+1=r.Lines.length:=by rw[hy];simp
 have hr:(⟨(u:Int),ys++ [y]⟩:zra)=r:=by cases r;simp only at hu hy ⊢;rw[hu,hy]
 have hw:vha (prn (dig3 u) (ys++ [y]))=(r,((ys.length+1:Nat):Int),⟨0,0⟩):=by
  have:=yjb h1 h2 ys y [] (by rw[<-hy];exact hx) (by omega) (by simp);rw[jBj]at this;rw[this,hr]
 rw[hy,V1a];rw[V1a]at hw;have key:∀(q p:List Str),ys=p++q->QNa (p.map fun x=>dig3 u++45::x) ((q.map fun x=>dig3 u++45::x)++ [dig3 u++32::y])=.said r []:=by
  intro q;induction q with
  | nil=>
   intro p hp;rw[jBj]at hp;subst hp;have hc:wUa ((ys.map fun x=>dig3 u++45::x)++ [dig3 u++32::y])=0:=by unfold wUa;rw[hw]
   show QNa _ [dig3 u++32::y]=_;rw[QNa,if_neg ?_,if_pos hc,hw];rintro (h | ⟨h,_⟩)
   .have:=(hx y (by rw[hy];simp)).1;rw[QBa]at h;omega
   exact h hc
  | cons z q ih=>
   intro p hp;have e:(p.map fun x=>dig3 u++45::x)++ [dig3 u++45::z]=(p++ [z]).map fun x=>dig3 u++45::x:=by simp
   have hc:wUa ((p.map fun x=>dig3 u++45::x)++ [dig3 u++45::z])=9:=by
    unfold wUa;rw[e,yib h1 h2 (p++ [z]) (fun s hs=>hx s (by rw[hy,hp,show p++z::q=(p++ [z])++q by simp];exact List.mem_append_left _ (List.mem_append_left _ hs))) (by rw[hp]at hyl;simp at hyl ⊢;omega)]
   rw[jCh,jBu,QNa,if_neg ?_,if_neg (by rw[hc];decide),e]
   .exact ih (p++ [z]) (by rw[hp];simp)
   rintro (h | ⟨_,h⟩)
   .have:=(hx z (by rw[hy,hp];simp)).1;rw[QBa]at h;omega
   exact h hc
 exact key ys [] rfl
theorem ykb{c:zna}(hb:c.Buffer=[])(hd:c.Done=false){r:zra}(h:ROk r):zXa c (repB r)=tb (kEa ⟨c,[]⟩ r) []:=by
 have hf:=Jpa (prn (dig3 r.Code.toNat) r.Lines) (prn_noCR h) [];rw[jBj]at hf;unfold zXa repB;rw[hd,if_neg (by decide),hb,jBm,hf,k9b,show ((fl [] []).1:List Str)=[] from rfl,jBj,ZIb h];unfold endB;dsimp only;split
 .rfl
 rename_i h1;rw[runP];dsimp only;rw[if_neg h1];rfl
theorem vJb{c:zna}{d:List UInt8}(h:c.Done=true):zXa c d=tb ⟨c,[]⟩ []:=by
 unfold zXa;rw[if_pos h]
theorem V6a{c0:zna}(o:QOa c0){a:List UInt8}{t:Talk}(ht:zXa c0 a=t)(hb:t.C.Buffer=[])(hd:t.C.Done=false){r:zra}(h:ROk r):zXa c0 (a++repB r)=tb (kEa t r) []:=by
 rw[jpa o,ht,ykb hb hd h];have e:pre t.Out ⟨t.C,[]⟩=t:=by unfold pre;simp
 show tb (pre t.Out (kEa ⟨t.C,[]⟩ r)) []=_;rw[<-vFb,e]
theorem Jxa{c0:zna}(o:QOa c0){a:List UInt8}{t:Talk}(ht:zXa c0 a=t)(hb:t.C.Buffer=[])(hd:t.C.Done=true)(b:List UInt8):zXa c0 (a++b)=t:=by
 rw[jpa o,ht,vJb hd];unfold pre tb;dsimp only;rw[jBj,<-hb]
def cmB(n:Str)(m:zua)(k:Nat):List UInt8:=
 if k=1 then cmdT (Jja n)++ [13,10] else if k=2 then cmdT (Yia m.Envelope.From (zia m.Message).length)++ [13,10] else
 match m.Envelope.To[k - 3]? with
 | some r=>cmdT (Voa r)++ [13,10]
 | none=>if rawP m.Message=true then cmdT (Q5a (zia m.Message).length)++ [13,10]++zia m.Message else cmdT Jia++ [13,10]
def AB(n:Str)(m:zua)(j:Nat):List UInt8:=(List.range j).flatMap fun i=>cmB n m (i+1)
theorem Vqa(n:Str)(m:zua)(j:Nat):AB n m (j+1)=AB n m j++cmB n m (j+1):=by
 unfold AB;rw[List.range_succ,List.flatMap_append];simp
theorem AB_le(n:Str)(m:zua){j k:Nat}(h:j<=k):AB n m j <+:AB n m k:=by
 induction h with
 | refl=>exact List.prefix_refl _
 | step _ ih=>rw[Vqa];exact ih.trans (jCt _ _)
theorem ask_T(t:Talk)(k:Nat)(h1:1<=k)(h2:k<=many t+3):askP t k=⟨{t.C with Whole:=t.C.Whole || (decide (k=many t+3) && rawP t.C.Mail.Message)},t.Out++cmB t.C.Name t.C.Mail k⟩:=by
 have hw:=Joa t k h1 h2;have hc:=Qsb t k;rw[hw]at hc;have ho:(askP t k).Out=t.Out++cmB t.C.Name t.C.Mail k:=by
  unfold askP cmB Z9a;split
  .simp
  split
  .simp
  cases t.C.Mail.Envelope.To[k - 3]? with
  | some r=>simp
  | none=>
   dsimp only;split <;> simp
 cases hq:askP t k;rw[hq]at hc ho;dsimp only at hc ho;rw[hc,ho]
theorem asks_T(n:Str)(m:zua)(o:List UInt8):∀(j k:Nat) (t:Talk),t.C.Name=n->t.C.Mail=m->t.Out=o++AB n m k->k+j<=many t+3->
 jia j (k+1) t=⟨{t.C with Whole:=t.C.Whole || (decide (0 < j) && (decide (k+j=many t+3) && rawP m.Message))},o++AB n m (k+j)⟩
 | 0,k,t,_,_,ho,_=>by
  rw[jia];cases t;dsimp only at ho ⊢;rw[ho];simp
 | j+1,k,t,hn,hm,ho,hk=>by
  rw[jia,ask_T t (k+1) (by omega) (by omega)];refine (asks_T n m o j (k+1) ⟨{t.C with Whole:=t.C.Whole || (decide (k+1=many t+3) && rawP t.C.Mail.Message)},t.Out++cmB t.C.Name t.C.Mail (k+1)⟩ hn hm (by dsimp only;rw[ho,hn,hm,Vqa,jAx]) (by show k+1+j<=many t+3;omega)).trans ?_;have e:many (⟨{t.C with Whole:=t.C.Whole || (decide (k+1=many t+3) && rawP t.C.Mail.Message)},t.Out++cmB t.C.Name t.C.Mail (k+1)⟩:Talk)=many t:=rfl;rw[e,show k+1+j=k+(j+1) by omega,hm];have e2:(t.C.Whole || (decide (k+1=many t+3) && rawP m.Message) || (decide (0 < j) && (decide (k+(j+1)=many t+3) && rawP m.Message)))=(t.C.Whole || (decide (0 < j+1) && (decide (k+(j+1)=many t+3) && rawP m.Message))):=by
   rw[decide_eq_true (show 0 < j+1 by omega),Bool.true_and];by_cases h0:j=0
   .subst h0;simp
   rw[decide_eq_false (show ¬k+1=many t+3 by omega),decide_eq_true (show 0 < j by omega)];simp
  dsimp only;rw[e2]
def jj(p:Bool)(N e:Nat):Nat:=if p=true/\2<=e then N+3 else e
def resL(K N e:Nat):List Int:=(List.range N).map fun i=>if i+3 < e/\K<=i then 2 else 0
def stT(n:Str)(m:zua)(p:Bool)(K e:Nat):Talk:=
 ⟨⟨n,m,p,[],((if rawP m.Message=true/\e=m.Envelope.To.length+3 then m.Envelope.To.length+4 else e:Nat):Int),rawP m.Message && decide (jj p m.Envelope.To.length e=m.Envelope.To.length+3),false,resL K m.Envelope.To.length e⟩,AB n m (jj p m.Envelope.To.length e)⟩
theorem jmb(K N e:Nat)(h:e<=3):resL K N e=List.replicate N 0:=by
 refine List.ext_getElem (by simp[resL]) fun i h1 h2=>?_
 simp only[resL,List.getElem_map,List.getElem_range,List.getElem_replicate];rw[if_neg (by omega)]
theorem V7a(K N e:Nat):(resL K N e).length=N:=by simp[resL]
theorem Jya{K N e i:Nat}(h:i < N):(resL K N e)[i]? =some (if i+3 < e/\K<=i then 2 else 0):=by
 unfold resL;rw[jAk,jEc h];rfl
theorem QVb{K N e:Nat}(h3:3<=e)(hN:e<=N+2):(if e - 3 < K then resL K N e else (resL K N e).set (e - 3) 2)=resL K N (e+1):=by
 refine List.ext_getElem? fun i=>?_
 by_cases hi:i < N
 .rw[Jya hi];split
  .rw[Jya hi]
   congr 1
   by_cases hk:K<=i
   .simp only[show (i+3 < e/\K<=i)↔(i+3 < e+1/\K<=i) from by omega]
   rw[if_neg (by omega),if_neg (by omega)]
  rw[jDp];split
  .rename_i h;subst h;rw[if_pos (by rw[V7a];omega),if_pos (by omega)]
  rw[Jya hi];simp only[show (i+3 < e/\K<=i)↔(i+3 < e+1/\K<=i) from by omega]
 rw[jBr (l:=resL K N (e+1)) (by rw[V7a];omega),jBr];split
 .rw[V7a];omega
 rw[List.length_set,V7a];omega
theorem vKb{K N e:Nat}(hK:1<=K)(hN:1<=N):anyO (resL K N e)=true:=by
 unfold anyO;rw[List.any_eq_true];refine ⟨0,jAi (i:=0) ?_,by decide⟩;rw[Jya (by omega),if_neg (by omega)]
theorem st_step{n:Str}{m:zua}{p:Bool}{K e:Nat}(hN:1<=m.Envelope.To.length)(hK:1<=K)(he:e<=m.Envelope.To.length+2){r:zra}(hr:iQuo r.Code 100=if e < K+3 then 2 else 4):tb (kEa (stT n m p K e) r) []=stT n m p K (e+1):=by
 have h0:kEa (stT n m p K e) r=Kaa (stT n m p K e) (if e < K+3 then 2 else 4) e:=by
  unfold kEa;rw[hr]
  congr 1
  show ((if rawP m.Message=true/\e=m.Envelope.To.length+3 then m.Envelope.To.length+4 else e:Nat):Int).toNat=e;rw[if_neg (by omega)];rfl
 have hm:many (stT n m p K e)=m.Envelope.To.length:=rfl;have key:∀R:List Int,R=resL K m.Envelope.To.length (e+1)->tb (qDa ⟨{(stT n m p K e).C with Results:=R},(stT n m p K e).Out⟩ e) []=stT n m p K (e+1):=by
  rintro R rfl;have on:onP1 ⟨{(stT n m p K e).C with Results:=resL K m.Envelope.To.length (e+1)},(stT n m p K e).Out⟩ e=⟨⟨n,m,p,[],((e+1:Nat):Int),rawP m.Message && decide (jj p m.Envelope.To.length (e+1)=m.Envelope.To.length+3),false,resL K m.Envelope.To.length (e+1)⟩,AB n m (jj p m.Envelope.To.length (e+1))⟩:=by
   unfold onP1;have j1:jj p m.Envelope.To.length e=if p=true/\2<=e then m.Envelope.To.length+3 else e:=rfl;split
   .rename_i hp;rw[ask_T _ _ (by omega) (by show e+1<=m.Envelope.To.length+3;omega)];have e1:jj p m.Envelope.To.length e=e:=by
     rw[j1,if_neg];rintro ⟨h1,h2⟩;rcases hp with hp | hp
     .rw[show p=false from hp]at h1;cases h1
     omega
    have e2:jj p m.Envelope.To.length (e+1)=e+1:=by
     unfold jj;rw[if_neg];rintro ⟨h1,h2⟩;rcases hp with hp | hp
     .rw[show p=false from hp]at h1;cases h1
     omega
    show (⟨⟨n,m,p,[],((e+1:Nat):Int),(rawP m.Message && decide (jj p m.Envelope.To.length e=m.Envelope.To.length+3)) || (decide (e+1=m.Envelope.To.length+3) && rawP m.Message),false,resL K m.Envelope.To.length (e+1)⟩,AB n m (jj p m.Envelope.To.length e)++cmB n m (e+1)⟩:Talk)=_;rw[e1,e2,Vqa,decide_eq_false (show ¬e=m.Envelope.To.length+3 by omega),Bool.and_false,jDs,Bool.and_comm]
   rename_i hp;have hp1:p=true:=by
    cases hq:p with
    | true=>rfl
    | false=>exact absurd (.inl hq) hp
   have e2:jj p m.Envelope.To.length (e+1)=m.Envelope.To.length+3:=by
    unfold jj;rw[if_pos ⟨hp1,by have:¬e=0:=fun h=>hp (.inr h);omega⟩]
   split
   .rename_i h1;subst h1;have e1:jj p m.Envelope.To.length 1=1:=by rw[j1,if_neg (by omega)]
    have:=asks_T n m [] (m.Envelope.To.length+2) 1 (setE ⟨{(stT n m p K 1).C with Results:=resL K m.Envelope.To.length (1+1)},(stT n m p K 1).Out⟩ ((1+1:Nat):Int)) rfl rfl (by show AB n m (jj p _ 1)=_;rw[e1,jBm]) (by show _<=m.Envelope.To.length+3;omega);show jia (m.Envelope.To.length+2) (1+1) _=_;rw[this];show (⟨⟨n,m,p,[],((1+1:Nat):Int),(rawP m.Message && decide (jj p m.Envelope.To.length 1=m.Envelope.To.length+3)) || (decide (0 < m.Envelope.To.length+2) && (decide (1+(m.Envelope.To.length+2)=m.Envelope.To.length+3) && rawP m.Message)),false,resL K m.Envelope.To.length (1+1)⟩,[]++AB n m (1+(m.Envelope.To.length+2))⟩:Talk)=_;rw[e1,e2,decide_eq_false (show ¬1=m.Envelope.To.length+3 by omega),decide_eq_true (show 0 < m.Envelope.To.length+2 by omega),show 1+(m.Envelope.To.length+2)=m.Envelope.To.length+3 by omega];simp
   rename_i h1;have e1:jj p m.Envelope.To.length e=m.Envelope.To.length+3:=by
    rw[j1,if_pos ⟨hp1,by have:¬e=0:=fun h=>hp (.inr h);omega⟩]
   show (⟨⟨n,m,p,[],((e+1:Nat):Int),(rawP m.Message && decide (jj p m.Envelope.To.length e=m.Envelope.To.length+3)),false,resL K m.Envelope.To.length (e+1)⟩,AB n m (jj p m.Envelope.To.length e)⟩:Talk)=_;rw[e1,e2]
  unfold qDa;rw[on];show tb (if e+1=m.Envelope.To.length+3/\rawP m.Message=true then _ else _) []=_;unfold stT;by_cases hc:e+1=m.Envelope.To.length+3/\rawP m.Message=true
  .rw[if_pos hc,if_pos ⟨hc.2,hc.1⟩];unfold setE tb;dsimp only;rw[show m.Envelope.To.length+4=e+2 by omega]
  rw[if_neg hc,if_neg fun h=>hc ⟨h.2,h.1⟩];rfl
 have es:(⟨{(stT n m p K e).C with Results:=resL K m.Envelope.To.length e},(stT n m p K e).Out⟩:Talk)=stT n m p K e:=rfl;rw[h0];unfold Kaa;rw[hm];by_cases h2:e<=2
 .rw[if_pos h2,if_pos (show e < K+3 by omega),if_pos rfl,<-es];exact key _ (by rw[jmb _ _ _ (by omega),jmb _ _ _ (by omega)])
 rw[if_neg h2,if_pos he];have hR:qta (stT n m p K e) (if e < K+3 then 2 else 4) e=⟨{(stT n m p K e).C with Results:=resL K m.Envelope.To.length (e+1)},(stT n m p K e).Out⟩:=by
  unfold qta;have hs:=QVb (K:=K) (show 3<=e by omega) he;by_cases hk:e < K+3
  .rw[if_pos hk,if_pos rfl];rw[if_pos (show e - 3 < K by omega)]at hs;rw[<-hs];rfl
  rw[if_neg hk,if_neg (by decide)];rw[if_neg (show ¬e - 3 < K by omega)]at hs;show (⟨{(stT n m p K e).C with Results:=(resL K m.Envelope.To.length e).set (e - 3) 2},_⟩:Talk)=_;rw[hs]
 rw[hR,if_neg (by
  rintro ⟨_,_,h⟩;rw[show (⟨{(stT n m p K e).C with Results:=resL K m.Envelope.To.length (e+1)},(stT n m p K e).Out⟩:Talk).C.Results=resL K m.Envelope.To.length (e+1) from rfl,vKb hK hN]at h;cases h)]
 exact key _ rfl
section
def V8a(m:zua):List UInt8:=if rawP m.Message=true then [] else vwb (zia m.Message)
def K2a:List UInt8:=cmdT vtb++ [13,10]
def stF(n:Str)(m:zua)(p:Bool)(K:Nat):Talk:=⟨⟨n,m,p,[],((m.Envelope.To.length+4:Nat):Int),true,false,resL K m.Envelope.To.length (m.Envelope.To.length+3)⟩,AB n m (m.Envelope.To.length+3)++V8a m⟩
def stE(n:Str)(m:zua)(p:Bool)(K:Nat):Talk:=⟨⟨n,m,p,[],((m.Envelope.To.length+4:Nat):Int),true,true,KXa (resL K m.Envelope.To.length (m.Envelope.To.length+3)) 1⟩,AB n m (m.Envelope.To.length+3)++V8a m++K2a⟩
def stX(n:Str)(m:zua)(p:Bool):Talk:=⟨⟨n,m,p,[],2,rawP m.Message && decide (jj p m.Envelope.To.length 2=m.Envelope.To.length+3),true,List.replicate m.Envelope.To.length 3⟩,AB n m (jj p m.Envelope.To.length 2)++K2a⟩
section
variable {n:Str} {m:zua} {p:Bool} {K:Nat}
theorem st_raw(hr:rawP m.Message=true):stT n m p K (m.Envelope.To.length+3)=stF n m p K:=by
 have e:jj p m.Envelope.To.length (m.Envelope.To.length+3)=m.Envelope.To.length+3:=by unfold jj;split <;> rfl
 unfold stT stF V8a;rw[e,hr,if_pos ⟨rfl,rfl⟩,if_pos rfl,decide_eq_true rfl,jBj];rfl
theorem st_data(hN:1<=m.Envelope.To.length)(hK:1<=K)(hr:rawP m.Message=false){r:zra}(h:iQuo r.Code 100=3):tb (kEa (stT n m p K (m.Envelope.To.length+3)) r) []=stF n m p K:=by
 have e:jj p m.Envelope.To.length (m.Envelope.To.length+3)=m.Envelope.To.length+3:=by unfold jj;split <;> rfl
 have h0:kEa (stT n m p K (m.Envelope.To.length+3)) r=Kaa (stT n m p K (m.Envelope.To.length+3)) 3 (m.Envelope.To.length+3):=by
  unfold kEa;rw[h]
  congr 1
  show ((if rawP m.Message=true/\_ then _ else m.Envelope.To.length+3:Nat):Int).toNat=_;rw[hr,if_neg (by simp)];rfl
 have hm:many (stT n m p K (m.Envelope.To.length+3))=m.Envelope.To.length:=rfl;rw[h0];unfold Kaa;rw[hm,if_neg (by omega),if_neg (by omega),if_pos rfl,if_pos rfl,if_neg (by
  rw[show (stT n m p K (m.Envelope.To.length+3)).C.Results=resL K m.Envelope.To.length (m.Envelope.To.length+3) from rfl,vKb hK hN];decide)]
 unfold Qwb stF V8a tb;rw[hr,if_neg (by decide)];show (⟨_,AB n m (jj p m.Envelope.To.length (m.Envelope.To.length+3))++_⟩:Talk)=_;rw[e];rfl
theorem st_last{r:zra}(hN:1<=m.Envelope.To.length)(h:iQuo r.Code 100=2):tb (kEa (stF n m p K) r) []=stE n m p K:=by
 have h0:kEa (stF n m p K) r=Kaa (stF n m p K) 2 (m.Envelope.To.length+4):=by
  unfold kEa;rw[h];rfl
 have hm:many (stF n m p K)=m.Envelope.To.length:=rfl;rw[h0];unfold Kaa;rw[hm,if_neg (by omega),if_neg (by omega),if_neg (by omega),if_pos rfl];unfold KYa Qtb stE tb Z9a K2a;dsimp only;simp[stF]
theorem st_fail{r:zra}(h:iQuo r.Code 100=5)(hN:1<=m.Envelope.To.length):tb (kEa (stT n m p K 2) r) []=stX n m p:=by
 have he:(if rawP m.Message=true/\2=m.Envelope.To.length+3 then m.Envelope.To.length+4 else 2:Nat)=2:=if_neg (by omega);have h0:kEa (stT n m p K 2) r=Kaa (stT n m p K 2) 5 2:=by
  unfold kEa;rw[h]
  congr 1
 rw[h0];unfold Kaa;rw[if_pos (by decide),if_neg (by decide)];have hR:KXa (resL K m.Envelope.To.length 2) 3=List.replicate m.Envelope.To.length 3:=by
  rw[jmb _ _ _ (by decide)];unfold KXa;rw[List.map_replicate];rfl
 show (⟨⟨n,m,p,[],((if rawP m.Message=true/\2=m.Envelope.To.length+3 then m.Envelope.To.length+4 else 2:Nat):Int),_,true,KXa (resL K m.Envelope.To.length 2) 3⟩,AB n m (jj p m.Envelope.To.length 2)++cmdT vtb++ [13,10]⟩:Talk)=_;rw[he,hR,jAx];rfl
theorem st_start:zXa (kFa n m p) []=stT n m p K 0:=by
 have e:jj p m.Envelope.To.length 0=0:=by unfold jj;rw[if_neg (by omega)]
 unfold stT;rw[e,if_neg (by omega),decide_eq_false (by omega),Bool.and_false,jmb _ _ _ (by omega)];rfl
theorem QWb(o:QOa (kFa n m p))(hN:1<=m.Envelope.To.length)(hK:1<=K)(l:List zra)(hl:∀i r,l[i]? =some r->i<=m.Envelope.To.length+2->ROk r/\iQuo r.Code 100=if i < K+3 then 2 else 4):∀e,e<=m.Envelope.To.length+3->e<=l.length->zXa (kFa n m p) (q0a (l.take e))=stT n m p K e
 | 0,_,_=>st_start
 | e+1,h1,h2=>by
  obtain ⟨k1,k2⟩:=hl e l[e] (jAj (by omega)) (by omega);rw[List.take_succ_eq_append_getElem (by omega),wwa,yYa,V6a o (QWb o hN hK l hl e (by omega) (by omega)) rfl rfl k1,st_step hN hK (by omega) k2]
end
end
def qea(c:UInt8):UInt8:=if c=0∨c=13 then 32 else c
def z7a(s:Str):Option Str:=if s.length<=4611686018427387904 then some (s.map qea) else none
def jnb(t:Str):Bool:=t.all fun b=>decide (b.toNat < 128)
def yZa(s t:Str):Option Str:=if s.length<=9223372036854775807/\t.length < 4294967281/\jnb t=true then some (Lib.trimS s t) else none
def via(s t:Str):Option Str:=if s.length<=9223372036854775807/\t.length < 4294967281/\jnb t=true then some (Lib.trimRightS s t) else none
def vja(l:List UInt8)(c:UInt8):Option Int:=some (Lib.indexByte l c)
def qka(a0:List UInt8)(a1:List UInt8):Option (List UInt8):=
 (zZa a0 a1).bind fun v1=>(bif v1 then (cut a0 0 ((w64 ((a0.length:Int) - (a1.length:Int))))).bind fun v4=>some v4 else some a0)
def jNa(a0:List UInt8):Option (Str × Int):=
 (vja a0 ((10:UInt8))).bind fun v1=>(bif decide (v1 < 0) then some ((a0,(a0.length:Int))) else (cut a0 0 v1).bind fun v4=>(qka v4 (([(13:UInt8)]:List UInt8))).bind fun v6=>some ((v6,(w64 (v1+1)))))
noncomputable def yda(a0:Str):Option (zga × Bool):=
 (vva a0 (([58]:Str))).bind fun v1=>(via v1.1 (([32,9]:Str))).bind fun v3=>((bif v1.2.2 then (jxa v3).bind fun v7=>some v7 else some false):Option Bool).bind fun (j5:Bool)=>some (((zga.mk v3 v1.2.1),j5))
noncomputable def wxa(a0:List UInt8)(s4:Int × (List zga)):Option (Step (Int × (List zga)) (Int × (List zga))):=
 (bif decide (s4.1 < (a0.length:Int)) then (cut a0 s4.1 ((a0.length:Int))).bind fun v8=>(jNa v8).bind fun v10=>(bif (v10.1==([]:Str)) then some (.out (((w64 (s4.1+v10.2)),s4.2))) else ((idx v10.1 0).bind fun v14=>(vwa v14).bind fun v16=>(bif v16 then some (decide (0 < (s4.2.length:Int))) else some false):Option Bool).bind fun (j13:Bool)=>(bif j13 then (idx s4.2 ((w64 ((s4.2.length:Int) - 1)))).bind fun v20=>(idx s4.2 ((w64 ((s4.2.length:Int) - 1)))).bind fun v22=>(cat v22.Value v10.1).bind fun v24=>(idx s4.2 ((w64 ((s4.2.length:Int) - 1)))).bind fun v26=>(idx s4.2 ((w64 ((s4.2.length:Int) - 1)))).bind fun v28=>some (.cont ((w64 (s4.1+v10.2)),(List.set s4.2 (Int.toNat ((w64 ((s4.2.length:Int) - 1)))) ((zga.mk v28.Name v24))))) else (yda v10.1).bind fun v30=>(bif (!v30.2) then some (.out ((s4.1,s4.2))) else (app 4398046511104 s4.2 (([v30.1]:List zga))).bind fun v33=>some (.cont ((w64 (s4.1+v10.2)),v33))))) else some (.out ((s4.1,s4.2))))
def wya(b5:Int × (List zga))(s38:Int × (List zga)):Option (Step (Int × (List zga)) ((List zga) ⊕ ((List zga) × Int × zqa))):=
 (bif decide (s38.1 < (b5.2.length:Int)) then (idx s38.2 s38.1).bind fun v44=>(idx s38.2 s38.1).bind fun v46=>(z7a v46.Value).bind fun v48=>(yZa v48 (([32,9]:Str))).bind fun v50=>(bif decide (4000 < (v50.length:Int)) then (zka 1 s38.1).bind fun v53=>some (.out (.inr (([],0,v53)))) else (idx s38.2 s38.1).bind fun v55=>(idx s38.2 s38.1).bind fun v57=>some (.cont ((w64 (s38.1+1)),(List.set s38.2 (Int.toNat s38.1) ((zga.mk v57.Name v50)))))) else some (.out (.inl s38.2)))
noncomputable def Kba(a0:List UInt8):Option ((List zga) × Int × zqa):=
 (bif decide (12000 < (a0.length:Int)) then (zka 1 ((-1))).bind fun v2=>some (([],0,v2)) else (iter (wxa a0) ((0,([]:List zga)))).bind fun b5=>(bif decide (60 < (b5.2.length:Int)) then (zka 2 ((-2))).bind fun v36=>some (([],0,v36)) else (iter (wya b5) ((0,b5.2))).bind (Sum.elim (fun b39=>(zHa).bind fun v59=>some ((b39,b5.1,v59))) (fun b40=>some ((b40.1,b40.2.1,b40.2.2))))))
def vGa(a0:List UInt8)(s1:Int × (List UInt8)):Option (Step (Int × (List UInt8)) (List UInt8)):=
 (bif decide (s1.1 < (a0.length:Int)) then (((idx a0 s1.1).bind fun v7=>(bif ((v7.toNat:Int)==13) then (bif decide ((w64 (s1.1+1)) < (a0.length:Int)) then (idx a0 ((w64 (s1.1+1)))).bind fun v11=>some (((v11.toNat:Int)==10)) else some false) else some false):Option Bool).bind fun (j6:Bool)=>(bif j6 then (app 140737488355328 s1.2 (([(13:UInt8),(10:UInt8)]:List UInt8))).bind fun v14=>some (((w64 (s1.1+1)),v14)) else ((idx a0 s1.1).bind fun v17=>(bif ((v17.toNat:Int)==13) then some true else (idx a0 s1.1).bind fun v20=>some (((v20.toNat:Int)==10))):Option Bool).bind fun (j16:Bool)=>(bif j16 then (app 140737488355328 s1.2 (([(13:UInt8),(10:UInt8)]:List UInt8))).bind fun v23=>some ((s1.1,v23)) else (idx a0 s1.1).bind fun v25=>(app 140737488355328 s1.2 (([v25]:List UInt8))).bind fun v27=>some ((s1.1,v27)))):Option (Int × (List UInt8))).bind fun (j5:Int × (List UInt8))=>some (.cont ((w64 (j5.1+1)),j5.2)) else some (.out s1.2))
noncomputable def yea(a0:List UInt8):Option (List UInt8):=
 (iter (vGa a0) ((0,([]:List UInt8)))).bind fun b2=>some b2
noncomputable def y0a(a0:List UInt8):Option (zta × zqa):=
 (Kba a0).bind fun v1=>(zDa v1.2.2).bind fun v3=>(bif v3 then some (((zta.mk ([]) ([])),v1.2.2)) else (cut a0 v1.2.1 ((a0.length:Int))).bind fun v6=>(yea v6).bind fun v8=>(qha ((zta.mk v1.1 v8))).bind fun v10=>(zDa v10).bind fun v12=>(bif v12 then some (((zta.mk ([]) ([])),v10)) else (zHa).bind fun v15=>some (((zta.mk v1.1 v8),v15))))
noncomputable def qua(a0:Str)(a1:Int)(a2:Int):Option zqa:=
 ((wMa a0).bind fun v2=>(bif (!v2) then some true else some (decide (40 < (a0.length:Int)))):Option Bool).bind fun (j1:Bool)=>(bif j1 then (zka 10 ((-20))).bind fun v6=>some v6 else ((bif decide (a1 < 1) then some true else some (decide (12000 < a1))):Option Bool).bind fun (j8:Bool)=>(bif j8 then (zka 3 ((-21))).bind fun v11=>some v11 else ((bif decide (a2 < 1) then some true else some (decide (60 < a2))):Option Bool).bind fun (j13:Bool)=>(bif j13 then (zka 3 ((-22))).bind fun v16=>some v16 else (zHa).bind fun v18=>some v18)))
noncomputable def ZNa(a0:Str)(a1:Int)(a2:Int):Option (zsa × zra × zqa):=
 (qua a0 a1 a2).bind fun v1=>(zDa v1).bind fun v3=>(bif v3 then some (((zsa.mk (([]:Str)) 0 0 0 false false (([]:Str)) ([]) ([]) ([]) 0 0 false 0 false false 0),(zra.mk 0 ([])),v1)) else (zHa).bind fun v6=>some (((zsa.mk a0 a1 a2 0 false false (([]:Str)) ([]) ([]) ([]) 0 0 false 0 false false 0),(zra.mk 220 (([a0]:List Str))),v6)))
def qsa(a0:Int)(a1:Int)(a2:Int):Option Bool:=
 ((bif decide (a1<=a0) then some (decide (a0<=a2)) else some false):Option Bool).bind fun (j1:Bool)=>some j1
def wza(a0:List UInt8)(a1:List UInt8):Option Bool:=
 (qWa a0 a1).bind fun v1=>some ((v1 !=(-1)))
def y1a(a0:zsa):Option Bool:=
 ((bif (a0.Left==0) then (bif (!a0.Last) then some ((!a0.Ignore)) else some false) else some false):Option Bool).bind fun (j1:Bool)=>(bif (a0.Phase==0) then ((bif decide ((a0.Buffer.length:Int) < 4002) then (wza a0.Buffer (([(13:UInt8),(10:UInt8)]:List UInt8))).bind fun v7=>(bif (!v7) then (bif (a0.Dots==0) then some j1 else some false) else some false) else some false):Option Bool).bind fun (j5:Bool)=>some j5 else (bif (a0.Phase==1) then ((bif decide (0 < (a0.To.length:Int)) then (bif (!a0.Chunked) then (bif ((a0.Buffer.length:Int)==0) then (qsa a0.Dots 0 4).bind fun v16=>(bif v16 then some j1 else some false) else some false) else some false) else some false):Option Bool).bind fun (j12:Bool)=>some j12 else (bif (a0.Phase==2) then ((bif (a0.Ignore==((a0.To.length:Int)==0)) then (bif (a0.Ignore==(!a0.Chunked)) then (bif ((a0.Buffer.length:Int)==0) then (bif (a0.Dots==0) then (qsa a0.Left 1 1000000).bind fun v25=>some v25 else some false) else some false) else some false) else some false):Option Bool).bind fun (j20:Bool)=>some j20 else (bif (a0.Phase==3) then ((bif (!a0.Mailing) then (bif ((a0.Buffer.length:Int)==0) then (bif (a0.Dots==0) then some j1 else some false) else some false) else some false):Option Bool).bind fun (j28:Bool)=>some j28 else some false))))
noncomputable def yfa(a0:zsa):Option Bool:=
 ((bif (a0.From !=([]:Str)) then (kxa a0.From).bind fun v3=>(bif (!v3) then some true else (bif decide (a0.Many < (a0.To.length:Int)) then some true else (kza a0.To).bind fun v7=>(zDa v7).bind fun v9=>some v9)) else (bif decide (a0.Many < (a0.To.length:Int)) then some true else (kza a0.To).bind fun v12=>(zDa v12).bind fun v14=>some v14)):Option Bool).bind fun (j1:Bool)=>(bif j1 then some false else ((bif (!a0.Greeted) then (bif a0.Mailing then some true else (bif (!a0.Mailing) then (bif (a0.From !=([]:Str)) then some true else (bif decide (0 < (a0.To.length:Int)) then some true else (bif a0.Chunked then some (((a0.To.length:Int)==0)) else some false))) else (bif a0.Chunked then some (((a0.To.length:Int)==0)) else some false))) else (bif (!a0.Mailing) then (bif (a0.From !=([]:Str)) then some true else (bif decide (0 < (a0.To.length:Int)) then some true else (bif a0.Chunked then some (((a0.To.length:Int)==0)) else some false))) else (bif a0.Chunked then some (((a0.To.length:Int)==0)) else some false))):Option Bool).bind fun (j17:Bool)=>(bif j17 then some false else ((bif decide (a0.Size < (a0.Data.length:Int)) then some true else (qsa a0.Lost 0 1099511627776).bind fun v33=>(bif (!v33) then some true else (qsa a0.Count 0 1000000).bind fun v36=>some ((!v36)))):Option Bool).bind fun (j31:Bool)=>(bif j31 then some false else ((bif decide (0 < (a0.Data.length:Int)) then (bif (!a0.Chunked) then some ((a0.Phase !=1)) else some false) else (bif decide (0 < a0.Lost) then (bif (!a0.Chunked) then some ((a0.Phase !=1)) else some false) else some false)):Option Bool).bind fun (j39:Bool)=>(bif j39 then some false else (y1a a0).bind fun v45=>some v45))))
noncomputable def zva(a0:List zba):Option (List zba):=
 (nilE a0.isEmpty (some ([])) ((app 5864062014805 ([]:List zba) a0).bind fun v2=>some v2))
noncomputable def k2a(a0:List UInt8):Option (List UInt8):=
 (nilE a0.isEmpty (some ([])) ((app 140737488355328 ([]:List UInt8) a0).bind fun v2=>some v2))
def vka(a0:List UInt8)(a1:List UInt8):Option ((List UInt8) × Bool):=
 (zZa a0 a1).bind fun v1=>(bif (!v1) then some ((a0,false)) else (cut a0 0 ((w64 ((a0.length:Int) - (a1.length:Int))))).bind fun v4=>some ((v4,true)))
def zpa(a0:zda)(a1:Int)(a2:List Str):Option zda:=
 (app 4398046511104 a0.replies (([(zra.mk a1 a2)]:List zra))).bind fun v1=>some ((zda.mk a0.Server v1 a0.mails))
def z4a(a0:zda):Option zda:=
 some ((zda.mk ((zsa.mk a0.Server.Name a0.Server.Size a0.Server.Many a0.Server.Phase a0.Server.Greeted false (([]:Str)) ([]) a0.Server.Buffer (([]:List UInt8)) 0 a0.Server.Dots false a0.Server.Left a0.Server.Last a0.Server.Ignore a0.Server.Count)) a0.replies a0.mails))
def qma(a0:zda):Option zda:=
 (z4a a0).bind fun v1=>some ((zda.mk ((zsa.mk v1.Server.Name v1.Server.Size v1.Server.Many 3 v1.Server.Greeted v1.Server.Mailing v1.Server.From v1.Server.To (([]:List UInt8)) v1.Server.Data v1.Server.Lost v1.Server.Dots v1.Server.Chunked v1.Server.Left v1.Server.Last v1.Server.Ignore v1.Server.Count)) v1.replies v1.mails))
noncomputable def kGa(a0:zda)(a1:zfa):Option zda:=
 (zva a0.Server.To).bind fun v1=>(app 5864062014805 v1 (([(zba.mk a1.Address a1.Notify)]:List zba))).bind fun v3=>(wra v3).bind fun v5=>((bif (!a0.Server.Mailing) then some true else some a0.Server.Chunked):Option Bool).bind fun (j7:Bool)=>(bif j7 then (zpa a0 503 (([([111,114,100,101,114]:Str)]:List Str))).bind fun v10=>some v10 else (bif decide (a0.Server.Many < (v5.1.length:Int)) then (zpa a0 452 (([([109,97,110,121]:Str)]:List Str))).bind fun v13=>some v13 else (zpa ((zda.mk ((zsa.mk a0.Server.Name a0.Server.Size a0.Server.Many a0.Server.Phase a0.Server.Greeted a0.Server.Mailing a0.Server.From v5.1 a0.Server.Buffer a0.Server.Data a0.Server.Lost a0.Server.Dots a0.Server.Chunked a0.Server.Left a0.Server.Last a0.Server.Ignore a0.Server.Count)) a0.replies a0.mails)) 250 (([([111,107]:Str)]:List Str))).bind fun v15=>some v15))
noncomputable def kha(a0:zda):Option zda:=
 (y0a a0.Server.Data).bind fun v1=>((bif decide (0 < a0.Server.Lost) then (zpa a0 552 (([([108,97,114,103,101]:Str)]:List Str))).bind fun v5=>some v5 else ((zDa v1.2).bind fun v8=>(bif v8 then some true else some ((a0.Server.Count==1000000))):Option Bool).bind fun (j7:Bool)=>(bif j7 then (zpa a0 554 (([([114,101,102,117,115,101,100]:Str)]:List Str))).bind fun v12=>some v12 else (cat a0.Server.Name (([45]:Str))).bind fun v14=>(zMa ((w64 (a0.Server.Count+1)))).bind fun v16=>(cat v14 v16).bind fun v18=>(zva a0.Server.To).bind fun v20=>(app 1353245080339 a0.mails (([(zua.mk ((zFa.mk a0.Server.From v20 v18)) v1.1)]:List zua))).bind fun v22=>(zpa ((zda.mk ((zsa.mk a0.Server.Name a0.Server.Size a0.Server.Many a0.Server.Phase a0.Server.Greeted a0.Server.Mailing a0.Server.From a0.Server.To a0.Server.Buffer a0.Server.Data a0.Server.Lost a0.Server.Dots a0.Server.Chunked a0.Server.Left a0.Server.Last a0.Server.Ignore ((w64 (a0.Server.Count+1))))) a0.replies v22)) 250 (([v18]:List Str))).bind fun v24=>some v24)):Option zda).bind fun (j3:zda)=>(z4a j3).bind fun v26=>some v26
noncomputable def ksa(a0:zda):Option zda:=
 (bif a0.Server.Ignore then (zpa ((zda.mk ((zsa.mk a0.Server.Name a0.Server.Size a0.Server.Many 0 a0.Server.Greeted a0.Server.Mailing a0.Server.From a0.Server.To a0.Server.Buffer a0.Server.Data a0.Server.Lost a0.Server.Dots a0.Server.Chunked a0.Server.Left false false a0.Server.Count)) a0.replies a0.mails)) 503 (([([111,114,100,101,114]:Str)]:List Str))).bind fun v2=>some v2 else (bif a0.Server.Last then (kha ((zda.mk ((zsa.mk a0.Server.Name a0.Server.Size a0.Server.Many 0 a0.Server.Greeted a0.Server.Mailing a0.Server.From a0.Server.To a0.Server.Buffer a0.Server.Data a0.Server.Lost a0.Server.Dots a0.Server.Chunked a0.Server.Left false false a0.Server.Count)) a0.replies a0.mails))).bind fun v5=>some v5 else (zpa ((zda.mk ((zsa.mk a0.Server.Name a0.Server.Size a0.Server.Many 0 a0.Server.Greeted a0.Server.Mailing a0.Server.From a0.Server.To a0.Server.Buffer a0.Server.Data a0.Server.Lost a0.Server.Dots a0.Server.Chunked a0.Server.Left false false a0.Server.Count)) a0.replies a0.mails)) 250 (([([111,107]:Str)]:List Str))).bind fun v7=>some v7))
noncomputable def k3a(a0:zda)(a1:zfa):Option zda:=
 (bif (a1.Verb==1) then (z4a a0).bind fun v2=>(zMa v2.Server.Size).bind fun v4=>(cat (([115,105,122,101,32]:Str)) v4).bind fun v6=>(zMa v2.Server.Many).bind fun v8=>(cat (([114,101,99,105,112,105,101,110,116,115,32]:Str)) v8).bind fun v10=>(zpa ((zda.mk ((zsa.mk v2.Server.Name v2.Server.Size v2.Server.Many v2.Server.Phase true v2.Server.Mailing v2.Server.From v2.Server.To v2.Server.Buffer v2.Server.Data v2.Server.Lost v2.Server.Dots v2.Server.Chunked v2.Server.Left v2.Server.Last v2.Server.Ignore v2.Server.Count)) v2.replies v2.mails)) 250 (([v2.Server.Name,v6,v10]:List Str))).bind fun v12=>some v12 else (bif (a1.Verb==2) then ((bif (!a0.Server.Greeted) then some true else some a0.Server.Mailing):Option Bool).bind fun (j15:Bool)=>(bif j15 then (zpa a0 503 (([([111,114,100,101,114]:Str)]:List Str))).bind fun v18=>some v18 else (bif decide (a0.Server.Size < a1.Size) then (zpa a0 552 (([([108,97,114,103,101]:Str)]:List Str))).bind fun v21=>some v21 else (zpa ((zda.mk ((zsa.mk a0.Server.Name a0.Server.Size a0.Server.Many a0.Server.Phase a0.Server.Greeted true a1.Address a0.Server.To a0.Server.Buffer a0.Server.Data a0.Server.Lost a0.Server.Dots a0.Server.Chunked a0.Server.Left a0.Server.Last a0.Server.Ignore a0.Server.Count)) a0.replies a0.mails)) 250 (([([111,107]:Str)]:List Str))).bind fun v23=>some v23)) else (bif (a1.Verb==3) then (kGa a0 a1).bind fun v26=>some v26 else (bif (a1.Verb==4) then ((bif ((a0.Server.To.length:Int)==0) then some true else some a0.Server.Chunked):Option Bool).bind fun (j29:Bool)=>(bif j29 then (zpa a0 503 (([([111,114,100,101,114]:Str)]:List Str))).bind fun v32=>some v32 else (zpa ((zda.mk ((zsa.mk a0.Server.Name a0.Server.Size a0.Server.Many 1 a0.Server.Greeted a0.Server.Mailing a0.Server.From a0.Server.To a0.Server.Buffer a0.Server.Data a0.Server.Lost a0.Server.Dots a0.Server.Chunked a0.Server.Left a0.Server.Last a0.Server.Ignore a0.Server.Count)) a0.replies a0.mails)) 354 (([([103,111,32,111,110]:Str)]:List Str))).bind fun v34=>some v34) else (bif (a1.Verb==5) then (bif (a1.Size==0) then (ksa ((zda.mk ((zsa.mk a0.Server.Name a0.Server.Size a0.Server.Many 2 a0.Server.Greeted a0.Server.Mailing a0.Server.From a0.Server.To a0.Server.Buffer a0.Server.Data a0.Server.Lost a0.Server.Dots ((!(((a0.Server.To.length:Int)==0)))) a1.Size a1.Last (((a0.Server.To.length:Int)==0)) a0.Server.Count)) a0.replies a0.mails))).bind fun v38=>some v38 else some ((zda.mk ((zsa.mk a0.Server.Name a0.Server.Size a0.Server.Many 2 a0.Server.Greeted a0.Server.Mailing a0.Server.From a0.Server.To a0.Server.Buffer a0.Server.Data a0.Server.Lost a0.Server.Dots ((!(((a0.Server.To.length:Int)==0)))) a1.Size a1.Last (((a0.Server.To.length:Int)==0)) a0.Server.Count)) a0.replies a0.mails))) else (bif (a1.Verb==6) then (z4a a0).bind fun v41=>(zpa v41 250 (([([111,107]:Str)]:List Str))).bind fun v43=>some v43 else (bif (a1.Verb==7) then (zpa a0 250 (([([111,107]:Str)]:List Str))).bind fun v46=>some v46 else (bif (a1.Verb==8) then (zpa a0 221 (([([98,121,101]:Str)]:List Str))).bind fun v49=>(qma v49).bind fun v51=>some v51 else some a0))))))))
noncomputable def qEa(a0:zda)(a1:UInt8):Option zda:=
 (app 140737488355328 a0.Server.Buffer (([a1]:List UInt8))).bind fun v1=>(vka v1 (([(13:UInt8),(10:UInt8)]:List UInt8))).bind fun v3=>(bif (!v3.2) then ((bif ((v1.length:Int)==4002) then (zpa ((zda.mk ((zsa.mk a0.Server.Name a0.Server.Size a0.Server.Many a0.Server.Phase a0.Server.Greeted a0.Server.Mailing a0.Server.From a0.Server.To v1 a0.Server.Data a0.Server.Lost a0.Server.Dots a0.Server.Chunked a0.Server.Left a0.Server.Last a0.Server.Ignore a0.Server.Count)) a0.replies a0.mails)) 500 (([([117,110,107,110,111,119,110]:Str)]:List Str))).bind fun v8=>(qma v8).bind fun v10=>some v10 else some ((zda.mk ((zsa.mk a0.Server.Name a0.Server.Size a0.Server.Many a0.Server.Phase a0.Server.Greeted a0.Server.Mailing a0.Server.From a0.Server.To v1 a0.Server.Data a0.Server.Lost a0.Server.Dots a0.Server.Chunked a0.Server.Left a0.Server.Last a0.Server.Ignore a0.Server.Count)) a0.replies a0.mails))):Option zda).bind fun (j6:zda)=>some j6 else (w8a v3.1).bind fun v12=>(bif (v12.2.Code==0) then (k3a ((zda.mk ((zsa.mk a0.Server.Name a0.Server.Size a0.Server.Many a0.Server.Phase a0.Server.Greeted a0.Server.Mailing a0.Server.From a0.Server.To (([]:List UInt8)) a0.Server.Data a0.Server.Lost a0.Server.Dots a0.Server.Chunked a0.Server.Left a0.Server.Last a0.Server.Ignore a0.Server.Count)) a0.replies a0.mails)) v12.1).bind fun v15=>some v15 else (bif (v12.2.Code==18) then (zpa ((zda.mk ((zsa.mk a0.Server.Name a0.Server.Size a0.Server.Many a0.Server.Phase a0.Server.Greeted a0.Server.Mailing a0.Server.From a0.Server.To (([]:List UInt8)) a0.Server.Data a0.Server.Lost a0.Server.Dots a0.Server.Chunked a0.Server.Left a0.Server.Last a0.Server.Ignore a0.Server.Count)) a0.replies a0.mails)) 500 (([([117,110,107,110,111,119,110]:Str)]:List Str))).bind fun v18=>some v18 else (zpa ((zda.mk ((zsa.mk a0.Server.Name a0.Server.Size a0.Server.Many a0.Server.Phase a0.Server.Greeted a0.Server.Mailing a0.Server.From a0.Server.To (([]:List UInt8)) a0.Server.Data a0.Server.Lost a0.Server.Dots a0.Server.Chunked a0.Server.Left a0.Server.Last a0.Server.Ignore a0.Server.Count)) a0.replies a0.mails)) 501 (([([115,121,110,116,97,120]:Str)]:List Str))).bind fun v20=>some v20)))
def kqa(a0:zda)(a1:UInt8):Option zda:=
 (bif decide ((a0.Server.Data.length:Int) < a0.Server.Size) then (app 140737488355328 a0.Server.Data (([a1]:List UInt8))).bind fun v2=>some ((zda.mk ((zsa.mk a0.Server.Name a0.Server.Size a0.Server.Many a0.Server.Phase a0.Server.Greeted a0.Server.Mailing a0.Server.From a0.Server.To a0.Server.Buffer v2 a0.Server.Lost a0.Server.Dots a0.Server.Chunked a0.Server.Left a0.Server.Last a0.Server.Ignore a0.Server.Count)) a0.replies a0.mails)) else some ((zda.mk ((zsa.mk a0.Server.Name a0.Server.Size a0.Server.Many a0.Server.Phase a0.Server.Greeted a0.Server.Mailing a0.Server.From a0.Server.To a0.Server.Buffer a0.Server.Data ((min ((w64 (a0.Server.Lost+1))) 1099511627776)) a0.Server.Dots a0.Server.Chunked a0.Server.Left a0.Server.Last a0.Server.Ignore a0.Server.Count)) a0.replies a0.mails)))
def kta(a1:UInt8)(j1:zda):Option zda:=
 (kqa j1 a1).bind fun v2=>(bif ((a1.toNat:Int)==13) then some ((zda.mk ((zsa.mk v2.Server.Name v2.Server.Size v2.Server.Many v2.Server.Phase v2.Server.Greeted v2.Server.Mailing v2.Server.From v2.Server.To v2.Server.Buffer v2.Server.Data v2.Server.Lost 4 v2.Server.Chunked v2.Server.Left v2.Server.Last v2.Server.Ignore v2.Server.Count)) v2.replies v2.mails)) else ((bif ((a1.toNat:Int)==10) then some ((v2.Server.Dots==4)) else some false):Option Bool).bind fun (j5:Bool)=>(bif j5 then some ((zda.mk ((zsa.mk v2.Server.Name v2.Server.Size v2.Server.Many v2.Server.Phase v2.Server.Greeted v2.Server.Mailing v2.Server.From v2.Server.To v2.Server.Buffer v2.Server.Data v2.Server.Lost 0 v2.Server.Chunked v2.Server.Left v2.Server.Last v2.Server.Ignore v2.Server.Count)) v2.replies v2.mails)) else some ((zda.mk ((zsa.mk v2.Server.Name v2.Server.Size v2.Server.Many v2.Server.Phase v2.Server.Greeted v2.Server.Mailing v2.Server.From v2.Server.To v2.Server.Buffer v2.Server.Data v2.Server.Lost 3 v2.Server.Chunked v2.Server.Left v2.Server.Last v2.Server.Ignore v2.Server.Count)) v2.replies v2.mails))))
noncomputable def qFa(a0:zda)(a1:UInt8):Option zda:=
 ((bif (a0.Server.Dots==0) then some (((a1.toNat:Int)==46)) else some false):Option Bool).bind fun (j8:Bool)=>(bif j8 then some ((zda.mk ((zsa.mk a0.Server.Name a0.Server.Size a0.Server.Many a0.Server.Phase a0.Server.Greeted a0.Server.Mailing a0.Server.From a0.Server.To a0.Server.Buffer a0.Server.Data a0.Server.Lost 1 a0.Server.Chunked a0.Server.Left a0.Server.Last a0.Server.Ignore a0.Server.Count)) a0.replies a0.mails)) else ((bif (a0.Server.Dots==1) then some (((a1.toNat:Int)==13)) else some false):Option Bool).bind fun (j11:Bool)=>(bif j11 then some ((zda.mk ((zsa.mk a0.Server.Name a0.Server.Size a0.Server.Many a0.Server.Phase a0.Server.Greeted a0.Server.Mailing a0.Server.From a0.Server.To a0.Server.Buffer a0.Server.Data a0.Server.Lost 2 a0.Server.Chunked a0.Server.Left a0.Server.Last a0.Server.Ignore a0.Server.Count)) a0.replies a0.mails)) else ((bif (a0.Server.Dots==2) then some (((a1.toNat:Int)==10)) else some false):Option Bool).bind fun (j14:Bool)=>(bif j14 then (kha ((zda.mk ((zsa.mk a0.Server.Name a0.Server.Size a0.Server.Many 0 a0.Server.Greeted a0.Server.Mailing a0.Server.From a0.Server.To a0.Server.Buffer a0.Server.Data a0.Server.Lost 0 a0.Server.Chunked a0.Server.Left a0.Server.Last a0.Server.Ignore a0.Server.Count)) a0.replies a0.mails))).bind fun v17=>some v17 else (bif (a0.Server.Dots==2) then (kqa a0 ((13:UInt8))).bind fun v20=>(kta a1 v20) else (kta a1 a0)))))
noncomputable def q1a(a1:List UInt8)(s20:Int × zda):Option (Step (Int × zda) zda):=
 (bif decide (s20.1 < (a1.length:Int)) then ((idx a1 s20.1).bind fun v25=>(bif (s20.2.Server.Phase==0) then (qEa s20.2 v25).bind fun v28=>some v28 else (bif (s20.2.Server.Phase==1) then (qFa s20.2 v25).bind fun v31=>some v31 else (bif (s20.2.Server.Phase==2) then ((bif (!s20.2.Server.Ignore) then (kqa s20.2 v25).bind fun v36=>some v36 else some s20.2):Option zda).bind fun (j34:zda)=>(bif ((w64 (j34.Server.Left - 1))==0) then (ksa ((zda.mk ((zsa.mk j34.Server.Name j34.Server.Size j34.Server.Many j34.Server.Phase j34.Server.Greeted j34.Server.Mailing j34.Server.From j34.Server.To j34.Server.Buffer j34.Server.Data j34.Server.Lost j34.Server.Dots j34.Server.Chunked ((w64 (j34.Server.Left - 1))) j34.Server.Last j34.Server.Ignore j34.Server.Count)) j34.replies j34.mails))).bind fun v39=>some v39 else some ((zda.mk ((zsa.mk j34.Server.Name j34.Server.Size j34.Server.Many j34.Server.Phase j34.Server.Greeted j34.Server.Mailing j34.Server.From j34.Server.To j34.Server.Buffer j34.Server.Data j34.Server.Lost j34.Server.Dots j34.Server.Chunked ((w64 (j34.Server.Left - 1))) j34.Server.Last j34.Server.Ignore j34.Server.Count)) j34.replies j34.mails))) else some s20.2))):Option zda).bind fun (j24:zda)=>some (.cont ((w64 (s20.1+1)),j24)) else some (.out s20.2))
noncomputable def jOa(a0:zsa)(a1:List UInt8):Option (zsa × (List zra) × (List zua) × zqa):=
 (qua a0.Name a0.Size a0.Many).bind fun v1=>(zDa v1).bind fun v3=>(bif v3 then some (((zsa.mk (([]:Str)) 0 0 0 false false (([]:Str)) ([]) ([]) ([]) 0 0 false 0 false false 0),[],[],v1)) else (yfa a0).bind fun v6=>(bif (!v6) then (zka 5 ((-23))).bind fun v9=>some (((zsa.mk (([]:Str)) 0 0 0 false false (([]:Str)) ([]) ([]) ([]) 0 0 false 0 false false 0),[],[],v9)) else (bif decide (40000 < (a1.length:Int)) then (zka 1 ((-1))).bind fun v12=>some (((zsa.mk (([]:Str)) 0 0 0 false false (([]:Str)) ([]) ([]) ([]) 0 0 false 0 false false 0),[],[],v12)) else (zva a0.To).bind fun v14=>(k2a a0.Buffer).bind fun v16=>(k2a a0.Data).bind fun v18=>(iter (q1a a1) ((0,(zda.mk ((zsa.mk a0.Name a0.Size a0.Many a0.Phase a0.Greeted a0.Mailing a0.From v14 v16 v18 a0.Lost a0.Dots a0.Chunked a0.Left a0.Last a0.Ignore a0.Count)) (([]:List zra)) (([]:List zua)))))).bind fun b21=>(zHa).bind fun v41=>some ((b21.Server,b21.replies,b21.mails,v41)))))
theorem Zda(s t:List UInt8)(hs:s.length<=9223372036854775806):zZa s t=some (t.isSuffixOf s):=by
 unfold zZa vua;by_cases h:t.length<=s.length
 .have:decide ((t.length:Int)<=(s.length:Int))=true:=by simp;omega
  rw[this,K3b _ _ h (by omega),jba (by omega)];simp only[cond_true,jAc,Option.some.injEq];rw[jAo,beq_iff_eq,jBk,List.suffix_iff_eq_drop];constructor <;> exact fun h=>h.symm
 have:decide ((t.length:Int)<=(s.length:Int))=false:=by simp;omega
 rw[this];simp only[cond_false,jAc,Option.some.injEq]
 symm
 rw[jCo];intro hp;exact h (jBk.1 hp).length_le
def chop(s:List UInt8):List UInt8:=if [13].isSuffixOf s then s.take (s.length - 1) else s
theorem qbb(s:List UInt8)(hs:s.length<=9223372036854775806):qka s [13]=some (chop s):=by
 unfold qka chop;rw[Zda s _ hs];cases h: [13].isSuffixOf s with
 | false=>rfl
 | true=>
  have hl:=(jBk.1 h).length_le;simp only[jAu,jBw]at hl;simp only[jAc,cond_true,jAu,jBw];rw[show ((s.length:Int) - ((0+1:Nat):Int))=((s.length - 1:Nat):Int) by omega,wXb _ (by omega),KNa (by omega)];rfl
def eol(b:List UInt8):Nat:=b.findIdx (· ==10)
theorem Q6a(c:UInt8):∀b:List UInt8,Lib.indexByte b c=if b.findIdx (· ==c) < b.length then ((b.findIdx (· ==c):Nat):Int) else -1
 | []=>rfl
 | x::b=>by
  have ih:=Q6a c b;unfold Lib.indexByte;rw[List.findIdx_cons,ih];cases hx:x==c with
  | true=>simp
  | false=>
   simp only[jAr,if_false,cond_false,jAu];by_cases h:b.findIdx (· ==c) < b.length
   .rw[if_pos h,if_neg (by simp),if_pos (by omega)];simp
   rw[if_neg h,if_pos (show ((-1:Int)== -1)=true from rfl),if_neg (by omega)]
def jZa(b:List UInt8):List UInt8 × Nat:=if eol b < b.length then (chop (b.take (eol b)),eol b+1) else (b,b.length)
theorem zhb(b:List UInt8)(hb:b.length<=1048576):jNa b=some ((jZa b).1,((jZa b).2:Int)):=by
 unfold jNa jZa vja;simp only[jAc];rw[Q6a,show b.findIdx (· ==10)=eol b from rfl];by_cases h:eol b < b.length
 .rw[if_pos h,if_pos h,decide_eq_false (by omega),cond_false,KNa (by omega)];simp only[jAc];rw[qbb _ (by simp;omega)];simp only[jAc];rw[K2b _ _ (show eol b+OfNat.ofNat 1<=_ by show eol b+1<=_;omega)]
 rw[if_neg h,if_neg h];rfl
theorem vLb{b:List UInt8}(h:b≠ []):1<=(jZa b).2/\(jZa b).2<=b.length/\(jZa b).1.length<=b.length:=by
 have:=jCv.2 h;unfold jZa;split
 .refine ⟨by simp,by simp;omega,?_⟩;unfold chop;split <;> simp <;> omega
 exact ⟨this,jAn _,jAn _⟩
def Zqa(l:List UInt8):List UInt8:=(l.reverse.dropWhile kpa).reverse
theorem vMb:(fun x=>([32,9]:List UInt8).contains x)=kpa:=by
 funext x;simp[kpa,List.contains,List.elem];cases h1:x==32 <;> cases h2:x==9 <;> simp_all
theorem W9a(s:Str)(hs:s.length<=9223372036854775807):via s [32,9]=some (Zqa s):=by
 unfold via Lib.trimRightS Zqa;rw[if_pos ⟨hs,by decide,rfl⟩,vMb]
theorem zTb(c:UInt8):∀b:List UInt8,Lib.index b [c]=if b.findIdx (· ==c) < b.length then ((b.findIdx (· ==c):Nat):Int) else -1
 | []=>rfl
 | x::b=>by
  have ih:=zTb c b;unfold Lib.index;rw[List.findIdx_cons,ih];have hp:([c]:List UInt8).isPrefixOf (x::b)=(x==c):=by
   simp only[List.isPrefixOf,jEh];rw[jAo,beq_iff_eq,beq_iff_eq];exact eq_comm
  rw[hp];cases hx:x==c with
  | true=>simp
  | false=>
   simp only[jAr,if_false,cond_false,jAu];by_cases h:b.findIdx (· ==c) < b.length
   .rw[if_pos h,if_neg (by simp),if_pos (by omega)];simp
   rw[if_neg h,if_pos (show ((-1:Int)== -1)=true from rfl),if_neg (by omega)]
def colI(s:Str):Nat:=s.findIdx (· ==58)
def colP(s:Str):Str × Str × Bool:=if colI s < s.length then (Zqa (s.take (colI s)),s.drop (colI s+1),fnP (Zqa (s.take (colI s)))) else (Zqa s,[],false)
theorem V9a(s:Str):(Zqa s).length<=s.length:=by
 unfold Zqa;rw[List.length_reverse];have:=(List.dropWhile_sublist kpa (l:=s.reverse)).length_le;simpa using this
theorem QXb(s:Str):Lib.cut s [58]=if colI s < s.length then (s.take (colI s),s.drop (colI s+1),true) else (s,[],false):=by
 unfold Lib.cut;rw[zTb,show s.findIdx (· ==58)=colI s from rfl];by_cases h:colI s < s.length
 .rw[if_pos h,if_pos h,if_pos (by omega)];simp
 rw[if_neg h,if_neg h,if_neg (by omega)]
theorem Yja(s:Str)(hs:s.length<=1048576):yda s=some (⟨(colP s).1,(colP s).2.1⟩,(colP s).2.2):=by
 unfold yda vva;rw[if_pos (by omega)];simp only[jAc];rw[QXb];unfold colP;by_cases h:colI s < s.length
 .rw[if_pos h,if_pos h];dsimp only;rw[W9a _ (by simp;omega)];simp only[jAc,cond_true];rw[zab _ (by have:=V9a (s.take (colI s));simp at this;omega)];rfl
 rw[if_neg h,if_neg h];dsimp only;rw[W9a _ (by omega)];rfl
theorem ZJb(l:Str)(x:UInt8):Zqa (l++ [x])=if kpa x then Zqa l else l++ [x]:=by
 unfold Zqa;rw[List.reverse_append,List.reverse_cons,List.reverse_nil,jBm,List.singleton_append,List.dropWhile_cons];split
 .rfl
 simp
theorem colP_len(s:Str):(colP s).1.length<=s.length/\(colP s).2.1.length<=s.length:=by
 unfold colP;split
 .refine ⟨?_,by simp⟩;have:=V9a (s.take (colI s));simp at this ⊢;omega
 exact ⟨V9a s,by simp⟩
def QPa(l:List UInt8):List UInt8:=l.dropWhile kpa
theorem zUb(x:UInt8)(l:Str):Zqa (x::l)=if kpa x=true/\Zqa l=[] then [] else x::Zqa l:=by
 unfold Zqa;rw[List.reverse_cons,List.dropWhile_append];cases h:(l.reverse.dropWhile kpa).isEmpty with
 | true=>
  have h0:l.reverse.dropWhile kpa=[]:=jDi.1 h;rw[h0,List.dropWhile_cons];cases hx:kpa x <;> simp
 | false=>
  have h0:l.reverse.dropWhile kpa≠ []:=fun e=>by rw[e]at h;cases h
  simp[h0]
theorem vNb:∀l:Str,QPa (Zqa l)=Zqa (QPa l)
 | []=>rfl
 | x::l=>by
  have ih:=vNb l;rw[zUb];cases hx:kpa x with
  | false=>
   rw[if_neg (by simp)];unfold QPa;rw[List.dropWhile_cons_of_neg (by simp[hx]),List.dropWhile_cons_of_neg (by simp[hx]),zUb,if_neg (by simp[hx])]
  | true=>
   rw[show QPa (x::l)=QPa l by unfold QPa;rw[List.dropWhile_cons_of_pos hx],<-ih];split
   .rename_i h;rw[h.2]
   unfold QPa;rw[List.dropWhile_cons_of_pos hx]
def Kna(v:Str):Str:=Zqa (QPa (v.map qea))
theorem zVb(v:Str):(Kna v).length<=v.length:=by
 unfold Kna QPa;have h1:=V9a ((v.map qea).dropWhile kpa);have h2:=(List.dropWhile_sublist kpa (l:=v.map qea)).length_le;simp at h2;omega
theorem Trim_eq(v:Str)(hs:v.length<=1048576):((z7a v).bind fun v48=>yZa v48 [32,9])=some (Kna v):=by
 unfold z7a yZa Lib.trimS Lib.trimLeftS Lib.trimRightS;rw[if_pos (by omega)];simp only[jAc];rw[if_pos ⟨by simp;omega,by decide,rfl⟩,vMb];show some (QPa (Zqa (v.map qea)))=_;rw[vNb];rfl
def Zra:Nat->List UInt8->List UInt8
 | 0,_=>[]
 | _+1,[]=>[]
 | n+1,c::r=>if c=13 then 13::10::Zra n (if r.head? =some 10 then r.drop 1 else r) else if c=10 then 13::10::Zra n r else c::Zra n r
theorem Jza:∀(n:Nat) (l:List UInt8),(Zra n l).length<=2 * n
 | 0,_=>by simp[Zra]
 | n+1,[]=>by simp[Zra]
 | n+1,c::r=>by
  unfold Zra;split
  .have:=Jza n (if r.head? =some 10 then r.drop 1 else r);simp only[jAu];omega
  have:=Jza n r;split <;> simp only[jAu] <;> omega
theorem WLa:∀(n m:Nat) (l:List UInt8),l.length<=n->l.length<=m->Zra n l=Zra m l
 | 0,m,l,h,_=>by
  obtain rfl:=jBy (by omega:l.length=0);cases m <;> rfl
 | n+1,m,[],_,_=>by cases m <;> rfl
 | n+1,0,c::r,_,h=>by simp at h
 | n+1,m+1,c::r,h1,h2=>by
  simp only[jAu]at h1 h2;unfold Zra;have hle:(if r.head? =some 10 then r.drop 1 else r).length<=r.length:=by
   split
   .simp
   exact jAn _
  have e1:=WLa n m (if r.head? =some 10 then r.drop 1 else r) (by omega) (by omega);have e2:=WLa n m r (by omega) (by omega);rw[e1,e2]
theorem QYb(b:List UInt8)(hb:b.length<=1048576){body:Int × List UInt8->Option (Step (Int × List UInt8) (List UInt8))}
 (h0:∀a,body ((b.length:Int),a)=some (.out a))
 (h1:∀(i:Nat) c a,b[i]? =some c->a.length<=3000000->body ((i:Int),a)=some (.cont (if c=13 then (((if b[i+1]? =some 10 then i+2 else i+1:Nat):Int),a++ [13,10]) else if c=10 then (((i+1:Nat):Int),a++ [13,10]) else (((i+1:Nat):Int),a++ [c])))):
 ∀(n i:Nat) (a:List UInt8),i+n=b.length->a.length<=2 * i->iter body ((i:Int),a)=some (a++Zra n (b.drop i)):=by
 intro n;induction n using Nat.strongRecOn with
 | _ n ih=>
  intro i a hn ha;cases n with
  | zero=>
   obtain rfl:i=b.length:=by omega
   rw[zOa (h0 a)];simp[Zra]
  | succ n=>
   have hi:i < b.length:=by omega
   have hd:b.drop i=b[i]::b.drop (i+1):=jCq hi;have hs:=h1 i b[i] a (jAj hi) (by omega);rw[zYa hs,hd];unfold Zra;by_cases h13:b[i]=13
   .rw[if_pos h13,if_pos h13];have hh:(b.drop (i+1)).head? =b[i+1]? :=by rw[List.head?_drop]
    rw[hh];by_cases h10:b[i+1]? =some 10
    .rw[if_pos h10,if_pos h10];have hi1:=(jAd.1 h10).1;have:=ih (n - 1) (by omega) (i+2) (a++ [13,10]) (by omega) (by simp;omega);rw[this,List.drop_drop,WLa (n - 1) n _ (by simp;omega) (by simp;omega)];simp
    rw[if_neg h10,if_neg h10];have:=ih n (by omega) (i+1) (a++ [13,10]) (by omega) (by simp;omega);rw[this];simp
   rw[if_neg h13,if_neg h13];by_cases h10:b[i]=10
   .rw[if_pos h10,if_pos h10,ih n (by omega) (i+1) (a++ [13,10]) (by omega) (by simp;omega)];simp
   rw[if_neg h10,if_neg h10,ih n (by omega) (i+1) (a++ [b[i]]) (by omega) (by simp;omega)];simp
theorem K3a(c k:UInt8):(c==k)=decide (c=k):=by rw[jAo];simp
theorem next_lf(b:List UInt8)(i:Nat)(hb:b.length<=1048576)(hi:i < b.length):(bif decide (w64 ((i:Int)+1) < (b.length:Int)) then (idx b (w64 ((i:Int)+1))).bind fun v11=>some ((v11.toNat:Int)==10) else some false)=some (decide (b[i+1]? =some 10)):=by
 rw[sc i (by omega)];by_cases h:i+1 < b.length
 .rw[decide_eq_true (by omega),Zma,jAj h];simp only[cond_true,jAc];rw[ZIa _ 10 (by decide),K3a]
  congr 1
  rw[jAo];simp
 rw[decide_eq_false (by omega),jBr (by omega)];rfl
theorem Yka(b:List UInt8)(hb:b.length<=1048576):yea b=some (Zra b.length b):=by
 unfold yea;have:=QYb b hb (body:=vGa b) (fun a=>by unfold vGa;rw[kLa];rfl) (fun i c a hc ha=>by
  have hi:=kla hc;unfold vGa;dsimp only;rw[qQa hc,kma hc,next_lf b i hb hi];simp only[cond_true,jAc];rw[ZIa c 13 (by decide),ZIa c 10 (by decide),K3a,K3a];rw[kRa (show a.length+([13,10]:List UInt8).length<=_ by simp;omega),kRa (show a.length+ [c].length<=_ by simp;omega)];by_cases h13:c=13
  .rw[if_pos h13,decide_eq_true h13];simp only[cond_true,jAc];by_cases h10:b[i+1]? =some 10
   .rw[if_pos h10,decide_eq_true h10];simp only[cond_true,jAc];rw[sc i (by omega),sc (i+1) (by omega)]
   rw[if_neg h10,decide_eq_false h10];simp only[cond_false,jAc];rw[sc i (by omega)]
  rw[if_neg h13,decide_eq_false h13];simp only[cond_false,jAc];by_cases h10:c=10
  .rw[if_pos h10,decide_eq_true h10];simp only[cond_true,jAc];rw[sc i (by omega)]
  rw[if_neg h10,decide_eq_false h10];simp only[cond_false,jAc];rw[sc i (by omega)]) b.length 0 [] (by omega) (by simp)
 rw[show ((0:Int))=((0:Nat):Int) from rfl,this];rfl
def K4a{S R:Type}(step:S->S ⊕ R)(dflt:R):Nat->S->R
 | 0,_=>dflt
 | n+1,s=>match step s with | .inl s' =>K4a step dflt n s' | .inr r=>r
theorem vOb{S R A B:Type}(enc:S->A)(out:R->B)(step:S->S ⊕ R)(dflt:R)(Inv:S->Prop)(m:S->Nat){body:A->Option (Step A B)}
 (h:∀s,Inv s->body (enc s)=some (Sum.elim (fun s' =>.cont (enc s')) (fun r=>.out (out r)) (step s))/\∀s',step s=.inl s' ->Inv s' /\m s' < m s):
 ∀(n:Nat) (s:S),Inv s->m s < n->iter body (enc s)=some (out (K4a step dflt n s)):=by
 intro n;induction n with
 | zero=>intro s _ h2;omega
 | succ n ih=>
  intro s hs hm;obtain ⟨h1,h2⟩:=h s hs;unfold K4a;cases hst:step s with
  | inl s' =>
   rw[hst]at h1;obtain ⟨h3,h4⟩:=h2 s' hst;rw[zYa h1];exact ih s' h3 (by omega)
  | inr r=>
   rw[hst]at h1;exact zOa h1
theorem vPb{S R:Type}(step:S->S ⊕ R)(dflt:R)(Inv:S->Prop)(Post:R->Prop)(m:S->Nat)
 (h:∀s,Inv s->(∀s',step s=.inl s' ->Inv s' /\m s' < m s)/\∀r,step s=.inr r->Post r):∀(n:Nat) (s:S),Inv s->m s < n->Post (K4a step dflt n s):=by
 intro n;induction n with
 | zero=>intro s _ h2;omega
 | succ n ih=>
  intro s hs hm;obtain ⟨h1,h2⟩:=h s hs;unfold K4a;cases hst:step s with
  | inl s' =>exact ih s' (h1 s' hst).1 (by have:=(h1 s' hst).2;omega)
  | inr r=>exact h2 r hst
def K5a(l:List zga)(t:Str):List zga:=match l[l.length - 1]? with
 | some f=>l.set (l.length - 1) ⟨f.Name,f.Value++t⟩
 | none=>l
def vla(b:List UInt8)(s:Nat × List zga):(Nat × List zga) ⊕ (Nat × List zga):=
 if s.1 < b.length then
  match (jZa (b.drop s.1)).1 with
  | []=>.inr (s.1+(jZa (b.drop s.1)).2,s.2)
  | c::_=>if kpa c=true/\s.2≠ [] then .inl (s.1+(jZa (b.drop s.1)).2,K5a s.2 (jZa (b.drop s.1)).1)
   else if (colP (jZa (b.drop s.1)).1).2.2=true then .inl (s.1+(jZa (b.drop s.1)).2,s.2++ [⟨(colP (jZa (b.drop s.1)).1).1,(colP (jZa (b.drop s.1)).1).2.1⟩])
   else .inr s
 else .inr s
def HInv(b:List UInt8)(s:Nat × List zga):Prop:=s.1<=b.length/\s.2.length<=s.1/\∀f∈s.2,f.Name.length<=s.1/\f.Value.length<=s.1
theorem vQb(b:List UInt8):(jZa b).1.length<=(jZa b).2:=by
 unfold jZa;split
 .unfold chop;split <;> simp <;> omega
 exact jAn _
theorem vRb{l:List zga}(h:l≠ []):∃f,l[l.length - 1]? =some f/\f∈l:=by
 have:=jCv.2 h;exact ⟨l[l.length - 1]'(by omega),jAj (by omega),jDj _⟩
theorem vSb{b:List UInt8}{s:Nat × List zga}(h:HInv b s):(∀s',vla b s=.inl s' ->HInv b s' /\b.length - s'.1 < b.length - s.1)/\∀r,vla b s=.inr r->HInv b r:=by
 obtain ⟨h1,h2,h3⟩:=h;unfold vla;by_cases hl:s.1 < b.length
 .rw[if_pos hl];have hne:b.drop s.1≠ []:=by
   intro e;have:=congrArg List.length e;simp at this;omega
  obtain ⟨p1,p2,p3⟩:=vLb hne;have p4:=vQb (b.drop s.1);rw[jCr]at p2;generalize jZa (b.drop s.1)=L at p1 p2 p3 p4;obtain ⟨t,n⟩:=L;dsimp only at p1 p2 p3 p4 ⊢;cases t with
  | nil=>
   refine ⟨fun s' e=>(by cases e),fun r e=>?_⟩;cases e;exact ⟨by show s.1+n<=_;omega,by show s.2.length<=s.1+n;omega,fun f hf=>by have:=h3 f hf;show _<=s.1+n/\_<=s.1+n;omega⟩
  | cons c t=>
   dsimp only;by_cases hb:kpa c=true/\s.2≠ []
   .rw[if_pos hb];refine ⟨fun s' e=>?_,fun r e=>by cases e⟩;cases e;obtain ⟨f,hf,hm⟩:=vRb hb.2;have hset:K5a s.2 (c::t)=s.2.set (s.2.length - 1) ⟨f.Name,f.Value++(c::t)⟩:=by unfold K5a;rw[hf]
    refine ⟨⟨by show s.1+n<=_;omega,?_,fun g hg=>?_⟩,by show b.length - (s.1+n) < _;omega⟩
    .show (K5a s.2 (c::t)).length<=s.1+n;rw[hset,List.length_set];omega
    have hg:g∈K5a s.2 (c::t):=hg;rw[hset]at hg;show _<=s.1+n/\_<=s.1+n;rcases List.mem_or_eq_of_mem_set hg with h4 | rfl
    .have:=h3 g h4;omega
    have:=h3 f hm;simp only[jAl];omega
   rw[if_neg hb];by_cases hc:(colP (c::t)).2.2=true
   .rw[if_pos hc];refine ⟨fun s' e=>?_,fun r e=>by cases e⟩;cases e;obtain ⟨q1,q2⟩:=colP_len (c::t);refine ⟨⟨by show s.1+n<=_;omega,by simp;omega,fun g hg=>?_⟩,by show b.length - (s.1+n) < _;omega⟩;rcases jCc.1 hg with h4 | h4
    .have:=h3 g h4;show _<=s.1+n/\_<=s.1+n;omega
    rw[jBi]at h4;subst h4;show _<=s.1+n/\_<=s.1+n;dsimp only;omega
   rw[if_neg hc];exact ⟨fun s' e=>(by cases e),fun r e=>(by cases e;exact ⟨h1,h2,h3⟩)⟩
 rw[if_neg hl];exact ⟨fun s' e=>(by cases e),fun r e=>(by cases e;exact ⟨h1,h2,h3⟩)⟩
def encH(s:Nat × List zga):Int × List zga:=((s.1:Int),s.2)
theorem last_idx{l:List zga}(h:l≠ [])(hl:l.length<=1048576):w64 ((l.length:Int) - 1)=((l.length - 1:Nat):Int):=by
 have:=jCv.2 h;rw[show ((l.length:Int) - 1)=((l.length - 1:Nat):Int) by omega,wXb _ (by omega)]
theorem QZb(b:List UInt8)(hb:b.length<=12000)(s:Nat × List zga)(h:HInv b s):wxa b (encH s)=some (Sum.elim (fun s' =>.cont (encH s')) (fun r=>.out (encH r)) (vla b s)):=by
 obtain ⟨h1,h2,h3⟩:=h;unfold wxa vla encH;by_cases hl:s.1 < b.length
 .rw[if_pos hl,decide_eq_true (by omega)];have hne:b.drop s.1≠ []:=by
   intro e;have:=congrArg List.length e;simp at this;omega
  obtain ⟨p1,p2,p3⟩:=vLb hne;have p4:=vQb (b.drop s.1);have hline:=zhb (b.drop s.1) (by simp;omega);rw[jCr]at p2 p3;simp only[cond_true];rw[jba (by omega)];simp only[jAc];rw[hline];generalize jZa (b.drop s.1)=L at p1 p2 p3 p4;obtain ⟨t,n⟩:=L;dsimp only at p1 p2 p3 p4 ⊢;simp only[jAc];rw[W3a _ _ (by omega)];cases t with
  | nil=>rfl
  | cons c t=>
   rw[show ((c::t)==([]:Str))=false from rfl,show idx (c::t) 0=some c from rfl];simp only[cond_false,jAc,Zoa];have e0:(bif kpa c then some (decide ((0:Int) < (s.2.length:Int))) else some false)=some (decide (kpa c=true/\s.2≠ [])):=by
    cases kpa c with
    | false=>rfl
    | true=>
     simp only[cond_true,Option.some.injEq];rw[jAo];simp[jCv]
   rw[e0];simp only[jAc];by_cases hbl:kpa c=true/\s.2≠ []
   .rw[if_pos hbl,decide_eq_true hbl];obtain ⟨f,hf,hm⟩:=vRb hbl.2;have hv:=h3 f hm;simp only[cond_true];rw[last_idx hbl.2 (by omega),Zma,hf];simp only[jAc];rw[vfa (by omega)];simp only[jAc];unfold K5a;rw[hf];rfl
   rw[if_neg hbl,decide_eq_false hbl];simp only[cond_false];rw[Yja _ (by omega)];simp only[jAc];cases hc:(colP (c::t)).2.2 with
   | false=>rfl
   | true=>
    rw[if_pos rfl];simp only[jBf,cond_false];rw[kRa (by simp;omega)];rfl
 rw[if_neg hl,decide_eq_false (by omega)];rfl
def j0a(b:List UInt8):Nat × List zga:=K4a (vla b) (0,[]) (b.length+1) (0,[])
theorem hinv0(b:List UInt8):HInv b (0,[]):=⟨jDd _,jAn _,fun f hf=>by cases hf⟩
theorem vTb(b:List UInt8):HInv b (j0a b):=vPb (vla b) (0,[]) (HInv b) (HInv b) (fun s=>b.length - s.1) (fun s hs=>vSb hs) _ _ (hinv0 b) (by show b.length - 0 < _;omega)
theorem Q0b(b:List UInt8)(hb:b.length<=12000):iter (wxa b) ((0,([]:List zga)))=some (encH (j0a b)):=
 vOb encH encH (vla b) (0,[]) (HInv b) (fun s=>b.length - s.1) (fun s hs=>⟨QZb b hb s hs,(vSb hs).1⟩) _ (0,[]) (hinv0 b) (by show b.length - 0 < _;omega)
def yqa(f:zga):zga:=⟨f.Name,Kna f.Value⟩
def mixF(l:List zga)(i:Nat):List zga:=(l.take i).map yqa++l.drop i
theorem mixF_at{l:List zga}{i:Nat}{x:zga}(h:l[i]? =some x):(mixF l i)[i]? =some x:=by
 have hi:=(jAd.1 h).1;unfold mixF;rw[jAq (by simp;omega)];simp only[jBd,jBt,jBo];rw[show i+(i - min i l.length)=i by omega];exact h
theorem Q1b{l:List zga}{i:Nat}{x:zga}(h:l[i]? =some x):(mixF l i).set i (yqa x)=mixF l (i+1):=by
 have hi:=(jAd.1 h).1;have hx:=(jAd.1 h).2;unfold mixF;rw[List.set_append_right _ _ (by simp;omega)];simp only[jBd,jBt];rw[show i - min i l.length=0 by omega,List.take_add_one,h,jCq hi,hx];simp
theorem mixF_all(l:List zga):mixF l l.length=l.map yqa:=by simp[mixF]
theorem Q2b(l:List zga):mixF l 0=l:=by simp[mixF]
def Q3b(l:List zga)(i:Nat):Nat ⊕ Option Nat:=match l[i]? with
 | some f=>if 4000 < (Kna f.Value).length then .inr (some i) else .inl (i+1)
 | none=>.inr none
def vout(l:List zga):Option Nat->(List zga) ⊕ ((List zga) × Int × zqa)
 | none=>.inl (l.map yqa)
 | some i=>.inr ([],0,⟨1,(i:Int)⟩)
def valsP(l:List zga):Option Nat:=K4a (Q3b l) none (l.length+1) 0
theorem Q4b(p:Int × List zga)(hl:p.2.length<=1048576)(hv:∀f∈p.2,f.Value.length<=1048576):iter (wya p) ((0,p.2))=some (vout p.2 (valsP p.2)):=by
 have h:=vOb (fun i:Nat=>((i:Int),mixF p.2 i)) (vout p.2) (Q3b p.2) none (fun i=>i<=p.2.length) (fun i=>p.2.length - i) (body:=wya p) (fun i hi=>?_) (p.2.length+1) 0 (jDd _) (by omega)
 .rw[Q2b]at h;exact h
 unfold wya Q3b;cases hf:p.2[i]? with
 | none=>
  have:i=p.2.length:=by have:=List.getElem?_eq_none_iff.1 hf;omega
  subst this;dsimp only;rw[decide_eq_false (by omega),mixF_all];exact ⟨rfl,fun s' e=>by cases e⟩
 | some f=>
  have hi2:=kla hf;have hfv:=hv f (jAi hf);dsimp only;rw[decide_eq_true (by omega),kma (mixF_at hf)];simp only[cond_true,jAc];have ht:=Trim_eq f.Value hfv;have hlt:(Kna f.Value).length<=1048576:=jBp (zVb _) hfv;cases hr:z7a f.Value with
  | none=>rw[hr]at ht;cases ht
  | some v=>
   rw[hr]at ht;simp only[jAc]at ht ⊢;rw[ht];simp only[jAc];by_cases h4:4000 < (Kna f.Value).length
   .rw[if_pos h4,decide_eq_true (by omega)];exact ⟨rfl,fun s' e=>by cases e⟩
   rw[if_neg h4,decide_eq_false (by omega)];simp only[cond_false];rw[sc i (by omega),jCw];refine ⟨?_,fun s' e=>by cases e;exact ⟨by omega,by omega⟩⟩;rw[show (⟨f.Name,Kna f.Value⟩:zga)=yqa f from rfl,Q1b hf];rfl
theorem ZKb(l:List zga):(valsP l=none->∀f∈l,(yqa f).Value.length<=4000)/\(valsP l≠none->∃f∈l,4000 < (yqa f).Value.length):=by
 refine vPb (Q3b l) none (fun i=>i<=l.length/\∀j f,j < i->l[j]? =some f->(yqa f).Value.length<=4000) (fun r=>(r=none->∀f∈l,(yqa f).Value.length<=4000)/\(r≠none->∃f∈l,4000 < (yqa f).Value.length)) (fun i=>l.length - i) ?_ _ 0 ⟨jDd _,fun j f h=>by omega⟩ (by omega);rintro i ⟨hi,hj⟩;unfold Q3b;cases hf:l[i]? with
 | none=>
  refine ⟨fun s' e=>(by cases e),fun r e=>?_⟩;cases e;refine ⟨fun _ f hm=>?_,fun h=>absurd rfl h⟩;obtain ⟨j,hjf⟩:=List.getElem?_of_mem hm;have:=List.getElem?_eq_none_iff.1 hf;exact hj j f (by have:=kla hjf;omega) hjf
 | some f=>
  dsimp only;by_cases h4:4000 < (Kna f.Value).length
  .rw[if_pos h4];refine ⟨fun s' e=>(by cases e),fun r e=>?_⟩;cases e;exact ⟨fun h=>(by cases h),fun _=>⟨f,jAi hf,h4⟩⟩
  rw[if_neg h4];refine ⟨fun s' e=>?_,fun r e=>by cases e⟩;cases e;have:=kla hf;refine ⟨⟨by omega,fun j g hji hg=>?_⟩,by omega⟩;by_cases e:j=i
  .subst e;rw[hf]at hg;cases hg;exact Nat.le_of_not_lt h4
  exact hj j g (by omega) hg
def zeroM:zta:=⟨[],[]⟩
def rawM(b:List UInt8):zta:=⟨(j0a b).2.map yqa,Zra (b.drop (j0a b).1).length (b.drop (j0a b).1)⟩
def jPa(b:List UInt8):zta × Bool:=
 if 60 < (j0a b).2.length then (zeroM,false) else if (msgF (rawM b)).Code=0 then (rawM b,true) else (zeroM,false)
theorem zWb(b:List UInt8)(hb:b.length<=12000):ypa (rawM b):=by
 obtain ⟨h1,h2,h3⟩:=vTb b;refine ⟨⟨by show ((j0a b).2.map yqa).length<=_;simp;omega,fun f hf=>?_⟩,?_⟩
 .have hf:f∈(j0a b).2.map yqa:=hf;obtain ⟨g,hg,rfl⟩:=jCd.1 hf;have:=h3 g hg;have h4:=zVb g.Value;show g.Name.length<=_/\(Kna g.Value).length<=_;omega
 show (Zra _ _).length<=_;have:=Jza (b.drop (j0a b).1).length (b.drop (j0a b).1);simp at this ⊢;omega
theorem JAa(b:List UInt8)(hb:b.length<=12000):∃f:zqa,y0a b=some ((jPa b).1,f)/\(f.Code !=0)= !(jPa b).2:=by
 obtain ⟨h1,h2,h3⟩:=vTb b;unfold y0a Kba;rw[decide_eq_false (by omega),Q0b b hb];simp only[cond_false,jAc,encH];unfold jPa;by_cases h60:60 < (j0a b).2.length
 .rw[if_pos h60,decide_eq_true (by omega)];exact ⟨⟨2, -2⟩,rfl,rfl⟩
 rw[if_neg h60,decide_eq_false (by omega)];simp only[cond_false];rw[Q4b ((((j0a b).1:Nat):Int),(j0a b).2) (by show (j0a b).2.length<=_;omega) (fun f hf=>by have:=h3 f hf;omega)];simp only[jAc];obtain ⟨v1,v2⟩:=ZKb (j0a b).2;cases hv:valsP (j0a b).2 with
 | none=>
  simp only[vout,Sum.elim_inl,zLa,jAc,zBa];rw[show ((0:Int) !=0)=false from rfl];simp only[cond_false];rw[jba h1];simp only[jAc];rw[Yka _ (by simp;omega)];simp only[jAc];rw[show (⟨(j0a b).2.map yqa,Zra (b.drop (j0a b).1).length (b.drop (j0a b).1)⟩:zta)=rawM b from rfl,wIa _ (zWb b hb)];simp only[jAc];by_cases h0:(msgF (rawM b)).Code=0
  .rw[if_pos h0,h0];exact ⟨⟨0,0⟩,rfl,rfl⟩
  rw[if_neg h0,bne_iff_ne.2 h0];exact ⟨msgF (rawM b),rfl,by rw[bne_iff_ne.2 h0];rfl⟩
 | some i=>
  have h0:¬(msgF (rawM b)).Code=0:=by
   intro h0;obtain ⟨f,hf,h4⟩:=v2 (by rw[hv];simp);have hh:(WGa (rawM b).Fields).Code=0:=by
    by_cases hz:(WGa (rawM b).Fields).Code=0
    .exact hz
    unfold msgF at h0;rw[if_pos (by simp[hz])]at h0;exact h0
   have:=(y3b ((Qva _ hh).2.2 (yqa f) (jCd.2 ⟨f,hf,rfl⟩))).2.1;omega
  rw[if_neg h0];exact ⟨⟨1,(i:Int)⟩,rfl,rfl⟩
def angP:Str->Option Str
 | b::r=>if b=60/\r.getLast? =some 62 then some r.dropLast else none
 | []=>none
theorem zXb(c:UInt8)(v:Str):Lib.hasSuffix v [c]=decide (v.getLast? =some c):=by
 unfold Lib.hasSuffix;rw[jAo,jBk,decide_eq_true_eq];constructor
 .rintro ⟨t,rfl⟩;simp
 intro h;have hne:v≠ []:=by rintro rfl;cases h
 refine ⟨v.dropLast,?_⟩;have:=List.dropLast_concat_getLast hne;rw[List.getLast?_eq_some_getLast hne]at h;rw[Option.some.inj h]at this;exact this
theorem vQa(a:Str)(ha:a.length<=1048576):∃x,vea a=some (x,(angP a).isSome)/\∀y,angP a=some y->x=y:=by
 unfold vea kea;simp only[jAc];have hpre:∀(t:Str),Lib.hasPrefix (60::t) [60]=true:=fun t=>by simp[Lib.hasPrefix]
 cases a with
 | nil=>
  refine ⟨[],?_,fun y h=>by cases h⟩;unfold kfa;rfl
 | cons b r=>
  by_cases hb:b=60
  .subst hb;have h1:Lib.trimPrefix (60::r) [60]=r:=by unfold Lib.trimPrefix;rw[hpre];rfl
   rw[h1,hpre];unfold kfa;simp at ha;have hsm:(angP (60::r)).isSome=decide (r.getLast? =some 62):=by
    unfold angP;by_cases hl:r.getLast? =some 62 <;> simp[hl]
   rw[if_pos (by omega),zXb,hsm];simp only[jAc,cond_true];refine ⟨_,rfl,fun y hy=>?_⟩;unfold angP at hy;by_cases hl:r.getLast? =some 62
   .simp only[hl,and_self,if_true,Option.some.injEq]at hy;subst hy;unfold Lib.trimSuffix;rw[zXb,hl];simp[List.dropLast_eq_take]
   simp[hl]at hy
  have h1:Lib.hasPrefix (b::r) [60]=false:=by
   simp[Lib.hasPrefix,List.isPrefixOf];exact fun h=>hb h.symm
  have h2:Lib.trimPrefix (b::r) [60]=b::r:=by unfold Lib.trimPrefix;rw[h1];rfl
  rw[h1,h2];unfold kfa;rw[if_pos (by omega)];have h3:angP (b::r)=none:=by unfold angP;simp[hb]
  exact ⟨_,by rw[h3];rfl,fun y hy=>by rw[h3]at hy;cases hy⟩
def optP(o n:Str):Option Str:=if (n++ [61]).isPrefixOf (lowP o) then some ((lowP o).drop (n.length+1)) else none
theorem ZOa(o n:Str)(ho:o.length<=1048576)(hn:n.length<=100):∃x,qra [o] n=some (x,(optP o n).isSome)/\(∀y,optP o n=some y->x=y)/\x.length<=o.length:=by
 have hll:(lowP o).length=o.length:=by unfold lowP;simp
 unfold qra;have e1:((([o]:List Str).length:Int) !=1)=false:=rfl;have e2:idx [o] 0=some o:=rfl;rw[e1,e2];simp only[cond_false,jAc,Zpa o ho];rw[vfa (by simp;omega)];unfold kea;simp only[jAc];unfold optP Lib.trimPrefix Lib.hasPrefix;by_cases h:(n++ [61]).isPrefixOf (lowP o)=true
 .rw[if_pos h];refine ⟨_,by rw[h];rfl,fun y hy=>?_,by simp;omega⟩;rw[if_pos h]at hy;cases hy;simp
 have h0:(n++ [61]).isPrefixOf (lowP o)=false:=by cases hb:(n++ [61]).isPrefixOf (lowP o) with
  | true=>exact absurd hb h
  | false=>rfl
 refine ⟨lowP o,?_,fun y hy=>?_,by omega⟩
 .rw[h0];simp
 rw[h0]at hy;simp at hy
def vUb(s:Str):Option Int:=zPa (fun i w=>if w==s then some ((i:Nat):Int) else none) 0 Jca
theorem JBa(s:Str)(b:Bool):yQa s b=some (match (if b then vUb s else none) with | some n=>(n,true) | none=>(0,false)):=by
 unfold yQa;cases b with
 | false=>
  have vla:∀i:Nat,i<=8->iter (kva s false) (i:Int)=some (.inl ()):=by
   intro i hi;have key:∀k i:Nat,i+k=8->iter (kva s false) (i:Int)=some (.inl ()):=by
    intro k;induction k with
    | zero=>
     intro i h;refine zOa ?_;unfold kva;rw[decide_eq_false (by omega)];rfl
    | succ k ih=>
     intro i h;have hs:kva s false (i:Int)=some (.cont ((i+1:Nat):Int)):=by
      unfold kva;rw[decide_eq_true (by omega)];simp only[cond_true,cond_false,jAc,sc i (by omega)]
     rw[zYa hs];exact ih (i+1) (by omega)
   exact key (8 - i) i (by omega)
  have:=vla 0 (by omega);rw[show (((0:Nat)):Int)=0 from rfl]at this;rw[this];rfl
 | true=>
  have hl:=kga Jca (fun i w=>if w==s then some (((i:Nat):Int),true) else none) (Sum.inl ()) Sum.inr (body:=kva s true)
   (by unfold kva;rfl) (fun i w hw=>by
    have hi:=kla hw;have h8:Jca.length=8:=rfl;have hc:KUa (i:Int)=w:=by
     unfold KUa;rw[jCw,jAv,hw];rfl
    unfold kva;rw[decide_eq_true (by omega),ZKa (by omega),hc];simp only[cond_true,jAc,sc i (by omega)];cases w==s <;> rfl)
  rw[hl];have hf:∀(l:List Str) (n:Nat),zPa (fun i w=>if w==s then some (((i:Nat):Int),true) else none) n l=(zPa (fun i w=>if w==s then some ((i:Nat):Int) else none) n l).map fun x=>(x,true):=by
   intro l;induction l with
   | nil=>intro n;rfl
   | cons y l ih=>
    intro n;unfold zPa;cases hy:y==s with
    | true=>simp
    | false=>simp only[jAr,if_false];exact ih (n+1)
  rw[hf];unfold vUb;rw[if_pos rfl];cases zPa (fun i w=>if w==s then some ((i:Nat):Int) else none) 0 Jca <;> rfl
def zib:Str:=[115,105,122,101]
def notW:Str:=[110,111,116,105,102,121]
def lastW:Str:=[108,97,115,116]
def y2a(v:Int)(l:List Str):Option zfa:=
 if v=1 then (match l with | [n]=>some ⟨1,n,[],0,0,false⟩ | _=>none)
 else if v=2 then (match l with
  | [a]=>(angP a).map fun x=>⟨2,[],x,0,0,false⟩
  | [a,o]=>(angP a).bind fun x=>(optP o zib).bind fun s=>(numP s).map fun (m:Nat)=>(⟨2,[],x,(m:Int),0,false⟩:zfa)
  | _=>none)
 else if v=3 then (match l with
  | [a]=>(angP a).map fun x=>⟨3,[],x,0,1,false⟩
  | [a,o]=>(angP a).bind fun x=>(optP o notW).bind fun s=>(vUb s).map fun m=>⟨3,[],x,0,m,false⟩
  | _=>none)
 else if v=5 then (match l with
  | [n]=>(numP n).map fun (m:Nat)=>(⟨5,[],[],(m:Int),0,false⟩:zfa)
  | [n,x]=>(numP n).bind fun m=>if lowP x=lastW then some ⟨5,[],[],(m:Int),0,true⟩ else none
  | _=>none)
 else (match l with | []=>some ⟨v,[],[],0,0,false⟩ | _=>none)
theorem ap2(a:Str):y2a 2 [a]=(angP a).map fun x=>(⟨2,[],x,0,0,false⟩:zfa):=rfl
theorem ap22(a o:Str):y2a 2 [a,o]=(angP a).bind fun x=>(optP o zib).bind fun s=>(numP s).map fun (m:Nat)=>(⟨2,[],x,(m:Int),0,false⟩:zfa):=rfl
theorem ap3(a:Str):y2a 3 [a]=(angP a).map fun x=>(⟨3,[],x,0,1,false⟩:zfa):=rfl
theorem ap33(a o:Str):y2a 3 [a,o]=(angP a).bind fun x=>(optP o notW).bind fun s=>(vUb s).map fun m=>(⟨3,[],x,0,m,false⟩:zfa):=rfl
theorem ap5(n:Str):y2a 5 [n]=(numP n).map fun (m:Nat)=>(⟨5,[],[],(m:Int),0,false⟩:zfa):=rfl
theorem ap55(n x:Str):y2a 5 [n,x]=(numP n).bind fun (m:Nat)=>if lowP x=lastW then some (⟨5,[],[],(m:Int),0,true⟩:zfa) else none:=rfl
theorem len_in(l:List Str)(a b:Int):(((bif decide (a<=(l.length:Int)) then some (decide ((l.length:Int)<=b)) else some false):Option Bool))=some (decide (a<=(l.length:Int)) && decide ((l.length:Int)<=b)):=y6b _ _
theorem JCa(v:Int)(l:List Str)(hl:∀s∈l,s.length<=1048576)(hv:v≠4->v≠6->v≠7->v≠8->v=1∨v=2∨v=3∨v=5):
 ∃c,yRa v l=some (c,(y2a v l).isSome)/\∀y,y2a v l=some y->c=y:=by
 have none3:∀(a b c:Str) (r:List Str) (v:Int),y2a v (a::b::c::r)=none:=by
  intro a b c r v;unfold y2a;repeat' split <;> first | rfl | (rename_i h;cases h) | skip
 unfold yRa;simp only[len_in,jAc];rcases five v with rfl | rfl | rfl | rfl | ⟨h1,h2,h3,h5⟩
 .simp only[show ((1:Int)==1)=true from rfl,cond_true]
  match l,hl with
  | [],_=>exact ⟨_,rfl,fun y h=>by cases h⟩
  | [n],_=>exact ⟨_,rfl,fun y h=>by cases h;rfl⟩
  | a::b::r,_=>
   have e:(decide ((1:Int)<=(((a::b::r).length:Nat):Int)) && decide ((((a::b::r).length:Nat):Int)<=1))=false:=by simp;omega
   rw[e];exact ⟨_,rfl,fun y h=>by cases h⟩
 .simp only[show ((2:Int)==1)=false from rfl,show ((2:Int)==2)=true from rfl,cond_true,cond_false]
  match l,hl with
  | [],_=>exact ⟨_,rfl,fun y h=>by cases h⟩
  | [a],hl=>
   obtain ⟨x,hx,hy⟩:=vQa a (hl a (by simp));have e2:idx [a] 0=some a:=rfl;have e4:(((([a]:List Str).length:Nat):Int)==2)=false:=rfl;have e5:(decide ((1:Int)<=(((([a]:List Str).length:Nat):Int))) && decide ((((([a]:List Str).length:Nat):Int))<=2))=true:=rfl;rw[e5,e2,e4];simp only[jAc,jBf,cond_false];rw[hx];refine ⟨⟨2,[],x,0,0,false⟩,?_,fun y h=>?_⟩
   .rw[ap2];cases angP a <;> rfl
   rw[ap2]at h;cases ha:angP a with
   | none=>rw[ha]at h;cases h
   | some z=>rw[ha]at h;cases h;rw[hy z ha]
  | [a,o],hl=>
   obtain ⟨x,hx,hy⟩:=vQa a (hl a (by simp));obtain ⟨z,hz,hzy,hzl⟩:=ZOa o zib (hl o (by simp)) (by decide);have e2:idx [a,o] 0=some a:=rfl;have e3:cut [a,o] 1 ((([a,o]:List Str).length:Nat):Int)=some [o]:=rfl;have e4:(((([a,o]:List Str).length:Nat):Int)==2)=true:=rfl;have e5:(decide ((1:Int)<=(((([a,o]:List Str).length:Nat):Int))) && decide ((((([a,o]:List Str).length:Nat):Int))<=2))=true:=rfl;have hz' :qra [o] ([115,105,122,101]:Str)=_:=hz;rw[e5,e2,e4,e3];simp only[jAc,jBf,cond_false,cond_true];rw[hx];simp only[jAc];rw[hz'];simp only[jAc,yAa];cases hn:numP z with
   | none=>
    refine ⟨⟨2,[],x,0,0,false⟩,?_,fun y h=>?_⟩
    .have:y2a 2 [a,o]=none:=by
      rw[ap22];cases angP a with
      | none=>rfl
      | some q=>
       cases ho:optP o zib with
       | none=>simp[ho]
       | some w=>
        have:=hzy w ho;subst this;simp[ho,hn]
     rw[this];cases (angP a).isSome <;> rfl
    exfalso;rw[ap22]at h;cases ha:angP a with
    | none=>rw[ha]at h;cases h
    | some q=>
     cases ho:optP o zib with
     | none=>rw[ha]at h;simp[ho]at h
     | some w=>
      have:=hzy w ho;subst this;rw[ha]at h;simp[ho,hn]at h
   | some m=>
    refine ⟨⟨2,[],x,(m:Int),0,false⟩,?_,fun y h=>?_⟩
    .rw[ap22];cases ha:angP a with
     | none=>rfl
     | some q=>
      cases ho:optP o zib with
      | none=>simp[ho];rfl
      | some w=>
       have:=hzy w ho;subst this;simp[ho,hn];rfl
    rw[ap22]at h;cases ha:angP a with
    | none=>rw[ha]at h;cases h
    | some q=>
     cases ho:optP o zib with
     | none=>rw[ha]at h;simp[ho]at h
     | some w=>
      have:=hzy w ho;subst this;rw[ha]at h;simp[ho,hn]at h;rw[<-h,hy q ha]
  | a::b::c::r,_=>
   have e:(decide ((1:Int)<=(((a::b::c::r).length:Nat):Int)) && decide ((((a::b::c::r).length:Nat):Int)<=2))=false:=by simp;omega
   rw[e,none3];exact ⟨_,rfl,fun y h=>by cases h⟩
 .simp only[show ((3:Int)==1)=false from rfl,show ((3:Int)==2)=false from rfl,show ((3:Int)==3)=true from rfl,cond_true,cond_false]
  match l,hl with
  | [],_=>exact ⟨_,rfl,fun y h=>by cases h⟩
  | [a],hl=>
   obtain ⟨x,hx,hy⟩:=vQa a (hl a (by simp));have e2:idx [a] 0=some a:=rfl;have e4:(((([a]:List Str).length:Nat):Int)==2)=false:=rfl;have e5:(decide ((1:Int)<=(((([a]:List Str).length:Nat):Int))) && decide ((((([a]:List Str).length:Nat):Int))<=2))=true:=rfl;rw[e5,e2,e4];simp only[jAc,jBf,cond_false];rw[hx];refine ⟨⟨3,[],x,0,1,false⟩,?_,fun y h=>?_⟩
   .rw[ap3];cases angP a <;> rfl
   rw[ap3]at h;cases ha:angP a with
   | none=>rw[ha]at h;cases h
   | some z=>rw[ha]at h;cases h;rw[hy z ha]
  | [a,o],hl=>
   obtain ⟨x,hx,hy⟩:=vQa a (hl a (by simp));obtain ⟨z,hz,hzy,hzl⟩:=ZOa o notW (hl o (by simp)) (by decide);have e2:idx [a,o] 0=some a:=rfl;have e3:cut [a,o] 1 ((([a,o]:List Str).length:Nat):Int)=some [o]:=rfl;have e4:(((([a,o]:List Str).length:Nat):Int)==2)=true:=rfl;have e5:(decide ((1:Int)<=(((([a,o]:List Str).length:Nat):Int))) && decide ((((([a,o]:List Str).length:Nat):Int))<=2))=true:=rfl;have hz' :qra [o] ([110,111,116,105,102,121]:Str)=_:=hz;rw[e5,e2,e4,e3];simp only[jAc,jBf,cond_false,cond_true];rw[hx];simp only[jAc];rw[hz'];simp only[jAc,JBa];cases ho:optP o notW with
   | none=>
    have h0:y2a 3 [a,o]=none:=by
     rw[ap33];cases angP a <;> simp[ho]
    rw[h0];refine ⟨⟨3,[],x,0,0,false⟩,?_,fun y h=>by cases h⟩;cases (angP a).isSome <;> rfl
   | some w=>
    have:=hzy w ho;subst this;simp only[Option.isSome_some,if_true];cases hn:vUb z with
    | none=>
     have h0:y2a 3 [a,o]=none:=by
      rw[ap33];cases angP a <;> simp[ho,hn]
     rw[h0];refine ⟨⟨3,[],x,0,0,false⟩,?_,fun y h=>by cases h⟩;cases (angP a).isSome <;> rfl
    | some m=>
     refine ⟨⟨3,[],x,0,m,false⟩,?_,fun y h=>?_⟩
     .rw[ap33];cases ha:angP a with
      | none=>rfl
      | some q=>simp[ho,hn];rfl
     rw[ap33]at h;cases ha:angP a with
     | none=>rw[ha]at h;cases h
     | some q=>
      rw[ha]at h;simp[ho,hn]at h;rw[<-h,hy q ha]
  | a::b::c::r,_=>
   have e:(decide ((1:Int)<=(((a::b::c::r).length:Nat):Int)) && decide ((((a::b::c::r).length:Nat):Int)<=2))=false:=by simp;omega
   rw[e,none3];exact ⟨_,rfl,fun y h=>by cases h⟩
 .simp only[show ((5:Int)==1)=false from rfl,show ((5:Int)==2)=false from rfl,show ((5:Int)==3)=false from rfl,show ((5:Int)==5)=true from rfl,cond_true,cond_false]
  match l,hl with
  | [],_=>exact ⟨_,rfl,fun y h=>by cases h⟩
  | [a],hl=>
   have e2:idx [a] 0=some a:=rfl;have e4:(((([a]:List Str).length:Nat):Int)==2)=false:=rfl;have e5:(decide ((1:Int)<=(((([a]:List Str).length:Nat):Int))) && decide ((((([a]:List Str).length:Nat):Int))<=2))=true:=rfl;rw[e5,e2,e4];simp only[jAc,jBf,jDn,cond_false,cond_true,yAa];cases hn:numP a with
   | none=>
    have h0:y2a 5 [a]=none:=by
     rw[ap5];simp[hn]
    rw[h0];exact ⟨⟨5,[],[],0,0,false⟩,rfl,fun y h=>by cases h⟩
   | some m=>
    have h0:y2a 5 [a]=some ⟨5,[],[],(m:Int),0,false⟩:=by
     rw[ap5];simp[hn]
    rw[h0];exact ⟨⟨5,[],[],(m:Int),0,false⟩,rfl,fun y h=>by cases h;rfl⟩
  | [a,x],hl=>
   have e2:idx [a,x] 0=some a:=rfl;have e3:idx [a,x] 1=some x:=rfl;have e4:(((([a,x]:List Str).length:Nat):Int)==2)=true:=rfl;have e5:(decide ((1:Int)<=(((([a,x]:List Str).length:Nat):Int))) && decide ((((([a,x]:List Str).length:Nat):Int))<=2))=true:=rfl;rw[e5,e2,e4,e3];simp only[jAc,jBf,cond_false,cond_true,yAa,Zpa x (hl x (by simp))];have hw:(lowP x==([108,97,115,116]:Str))=decide (lowP x=lastW):=by rw[jAo,beq_iff_eq,decide_eq_true_eq];exact Iff.rfl
   rw[hw];cases hn:numP a with
   | none=>
    have h0:y2a 5 [a,x]=none:=by
     rw[ap55];simp[hn]
    rw[h0];exact ⟨⟨5,[],[],0,0,true⟩,rfl,fun y h=>by cases h⟩
   | some m=>
    by_cases hx:lowP x=lastW
    .have h0:y2a 5 [a,x]=some ⟨5,[],[],(m:Int),0,true⟩:=by
      rw[ap55];simp[hn,hx]
     rw[h0,decide_eq_true hx];exact ⟨⟨5,[],[],(m:Int),0,true⟩,rfl,fun y h=>by cases h;rfl⟩
    have h0:y2a 5 [a,x]=none:=by
     rw[ap55];simp[hn,hx]
    rw[h0,decide_eq_false hx];exact ⟨⟨5,[],[],(m:Int),0,true⟩,rfl,fun y h=>by cases h⟩
  | a::b::c::r,_=>
   have e:(decide ((1:Int)<=(((a::b::c::r).length:Nat):Int)) && decide ((((a::b::c::r).length:Nat):Int)<=2))=false:=by simp;omega
   rw[e,none3];exact ⟨_,rfl,fun y h=>by cases h⟩
 rw[h1,h2,h3,h5];simp only[cond_false];have n1:v≠1:=by simpa using h1
 have n2:v≠2:=by simpa using h2
 have n3:v≠3:=by simpa using h3
 have n5:v≠5:=by simpa using h5
 have hr:wua 0 0 l=some l.isEmpty:=by
  unfold wua;rw[len_in];cases l with
  | nil=>rfl
  | cons a r=>
   simp only[jAc];have:(decide ((0:Int)<=(((a::r).length:Nat):Int)) && decide ((((a::r).length:Nat):Int)<=0))=false:=by simp
   rw[this];rfl
 rw[hr];unfold y2a;rw[if_neg n1,if_neg n2,if_neg n3,if_neg n5];cases l with
 | nil=>exact ⟨_,rfl,fun y h=>by cases h;rfl⟩
 | cons a r=>exact ⟨_,rfl,fun y h=>by cases h⟩
def qcb(y:Str):Int:=Kua.zipIdx.foldl (fun (s:Int) p=>if y==p.1 then ((p.2+1:Nat):Int) else s) 0
def ZLb:List Str->Int
 | []=>0
 | x::_=>qcb (lowP x)
theorem ylb(y:Str):(qcb y=0/\y ∉ Kua)∨∃v:Int,1<=v/\v<=8/\qcb y=v/\y=yWa v:=by
 by_cases h:y∈Kua
 .right;have:∀z∈Kua,∃v:Fin 8,qcb z=(v.val:Int)+1/\z=yWa ((v.val:Int)+1):=by decide
  obtain ⟨v,h1,h2⟩:=this y h;exact ⟨(v.val:Int)+1,by omega,by omega,h1,h2⟩
 left;refine ⟨?_,h⟩;simp only[Kua,jBh,List.not_mem_nil,or_false,not_or]at h;obtain ⟨a1,a2,a3,a4,a5,a6,a7,a8⟩:=h;simp[qcb,Kua,List.zipIdx,a1,a2,a3,a4,a5,a6,a7,a8]
theorem Waa(w:List Str)(hw:∀s∈w,s.length<=1048576):iter (qNa w (([104,101,108,108,111]:Str),([109,97,105,108]:Str),([114,99,112,116]:Str),([100,97,116,97]:Str),([99,104,117,110,107]:Str),([114,101,115,101,116]:Str),([110,111,111,112]:Str),([113,117,105,116]:Str))) (0,0)=some (ZLb w):=by
 obtain ⟨t,h1,h2,h3⟩:=zEb Kua (fun i (s:Int)=>(s,i)) (fun i s x=>match w with | []=>s | y::_=>if lowP y==x then ((i+1:Nat):Int) else s) id (fun _ _=>True) (body:=qNa w (([104,101,108,108,111]:Str),([109,97,105,108]:Str),([114,99,112,116]:Str),([100,97,116,97]:Str),([99,104,117,110,107]:Str),([114,101,115,101,116]:Str),([110,111,111,112]:Str),([113,117,105,116]:Str)))
  (fun s _=>by unfold qNa;rfl) (fun i x s hx _=>by
   have hi:=kla hx;have h8:Kua.length=8:=rfl;refine ⟨?_,trivial⟩;unfold qNa;dsimp only;rw[decide_eq_true (by omega),show ([([104,101,108,108,111]:Str),([109,97,105,108]:Str),([114,99,112,116]:Str),([100,97,116,97]:Str),([99,104,117,110,107]:Str),([114,101,115,101,116]:Str),([110,111,111,112]:Str),([113,117,105,116]:Str)]:List Str)=Kua from rfl,kma hx];simp only[cond_true,jAc,sc i (by omega)];cases w with
   | nil=>rfl
   | cons y r=>
    have e1:decide ((0:Int) < (((y::r).length:Nat):Int))=true:=by simp
    have e2:idx (y::r) 0=some y:=rfl;rw[e1,e2];simp only[cond_true,jAc,Zpa y (hw y (by simp))];cases lowP y==x <;> rfl) 0 trivial
 rw[h1,h3];cases w with
 | nil=>rfl
 | cons y r=>rfl
def noC:zfa:=⟨0,[],[],0,0,false⟩
def finP(c:zfa):zfa × zqa:=bif (cmdF c).Code !=0 then (noC,cmdF c) else (c,⟨0,0⟩)
def ZPa(s:Str):zfa × zqa:=
 if 4000 < s.length then (noC,⟨1, -1⟩) else if ZLb (yba s)=0 then (noC,⟨18, -2⟩) else match y2a (ZLb (yba s)) ((yba s).drop 1) with
  | none=>(noC,⟨11, -3⟩)
  | some c=>finP c
theorem ZMb{s x:Str}(h:x∈yba s):x.length<=s.length:=Zwb (jDe.1 h).1
theorem YIa{a y:Str}(h:angP a=some y):y.length<=a.length:=by
 unfold angP at h;split at h
 .split at h
  .cases h;simp;omega
  cases h
 cases h
theorem ymb{v:Int}{l:List Str}{c:zfa}(hl:∀s∈l,s.length<=1048576)(h:y2a v l=some c):k1b c:=by
 unfold y2a at h;have z:([]:Str).length<=1048576:=by decide
 split at h
 .split at h
  .cases h;exact ⟨hl _ (by simp),z⟩
  cases h
 split at h
 .split at h
  .rename_i a;cases ha:angP a with
   | none=>rw[ha]at h;cases h
   | some q=>rw[ha]at h;cases h;exact ⟨z,jBp (YIa ha) (hl _ (by simp))⟩
  .rename_i a o;cases ha:angP a with
   | none=>rw[ha]at h;cases h
   | some q=>
    rw[ha]at h;cases ho:optP o zib with
    | none=>simp[ho]at h
    | some w=>
     cases hn:numP w with
     | none=>simp[ho,hn]at h
     | some m=>simp[ho,hn]at h;subst h;exact ⟨z,jBp (YIa ha) (hl _ (by simp))⟩
  cases h
 split at h
 .split at h
  .rename_i a;cases ha:angP a with
   | none=>rw[ha]at h;cases h
   | some q=>rw[ha]at h;cases h;exact ⟨z,jBp (YIa ha) (hl _ (by simp))⟩
  .rename_i a o;cases ha:angP a with
   | none=>rw[ha]at h;cases h
   | some q=>
    rw[ha]at h;cases ho:optP o notW with
    | none=>simp[ho]at h
    | some w=>
     cases hn:vUb w with
     | none=>simp[ho,hn]at h
     | some m=>simp[ho,hn]at h;subst h;exact ⟨z,jBp (YIa ha) (hl _ (by simp))⟩
  cases h
 split at h
 .split at h
  .rename_i n;cases hn:numP n with
   | none=>simp[hn]at h
   | some m=>simp[hn]at h;subst h;exact ⟨z,z⟩
  .rename_i n x;cases hn:numP n with
   | none=>simp[hn]at h
   | some m=>simp[hn]at h;obtain ⟨_,rfl⟩:=h;exact ⟨z,z⟩
  cases h
 split at h
 .cases h;exact ⟨z,z⟩
 cases h
theorem Yla(s:Str)(hs:s.length<=1048576):w8a s=some (ZPa s):=by
 unfold w8a ZPa;by_cases h4:4000 < s.length
 .rw[decide_eq_true (by omega),if_pos h4];rfl
 rw[decide_eq_false (by omega),if_neg h4];have hw:∀x∈yba s,x.length<=1048576:=fun x hx=>by have:=ZMb hx;omega
 have hf:qda s=some (yba s):=by
  unfold qda;rw[if_pos (by omega),w9b]
 rw[hf,Kla];simp only[cond_false,jAc,zAa,zLa,zBa];rw[Waa _ hw];simp only[jAc];generalize yba s=w at hw ⊢;cases w with
 | nil=>rfl
 | cons y r=>
  have e:ZLb (y::r)=qcb (lowP y):=rfl;rw[e];rcases ylb (lowP y) with ⟨h0,_⟩ | ⟨v,h1,h8,hv,_⟩
  .rw[h0];rfl
  rw[hv];have e0:(v==0)=false:=by rw[beq_eq_false_iff_ne];omega
  rw[e0,if_neg (by omega)];have ec:cut (y::r) 1 (((y::r).length:Nat):Int)=some r:=by
   have:=jba (l:=y::r) (a:=1) (by simp);exact this
  rw[ec];simp only[cond_false,jAc,List.drop_succ_cons,List.drop_zero];have hr:∀x∈r,x.length<=1048576:=fun x hx=>hw x (by simp[hx])
  obtain ⟨c,h2,h3⟩:=JCa v r hr (by omega);rw[h2];simp only[jAc];cases ha:y2a v r with
  | none=>rfl
  | some z=>
   have:=h3 z ha;subst this;have hsm:=ymb hr ha;simp only[Option.isSome_some,jBf,cond_false,jJa c hsm,jAc];unfold finP;cases hq:(cmdF c).Code !=0 with
   | true=>rfl
   | false=>rfl
abbrev Ses:=zda
def cv(x:Ses):zSa:=⟨x.Server,x.replies,x.mails⟩
def sayS(x:Ses)(code:Int)(l:List Str):Ses:=⟨x.Server,x.replies++ [⟨code,l⟩],x.mails⟩
def abS(x:Ses):Ses:=⟨{x.Server with Mailing:=false,From:=[],To:=[],Data:=[],Lost:=0,Chunked:=false},x.replies,x.mails⟩
def z2a(x:Ses)(c:UInt8):Ses:=if (x.Server.Data.length:Int) < x.Server.Size then ⟨{x.Server with Data:=x.Server.Data++ [c]},x.replies,x.mails⟩ else ⟨{x.Server with Lost:=min (x.Server.Lost+1) 1099511627776},x.replies,x.mails⟩
def idS(s:zsa):Str:=s.Name++ [45]++Lib.decDigits (s.Count+1).toNat
def job:Str:=[108,97,114,103,101]
def jpb:Str:=[114,101,102,117,115,101,100]
def zYb:Str:=[111,114,100,101,114]
def okW:Str:=[111,107]
def Kva(x:Ses):Ses:=abS (if 0 < x.Server.Lost then sayS x 552 [job] else if (jPa x.Server.Data).2=false∨x.Server.Count=1000000 then sayS x 554 [jpb]
 else sayS ⟨{x.Server with Count:=x.Server.Count+1},x.replies,x.mails++ [⟨⟨x.Server.From,x.Server.To,idS x.Server⟩,(jPa x.Server.Data).1⟩]⟩ 250 [idS x.Server])
def yga(x:Ses):Ses:=bif x.Server.Ignore then sayS ⟨{x.Server with Phase:=0,Last:=false,Ignore:=false},x.replies,x.mails⟩ 503 [zYb]
 else bif x.Server.Last then Kva ⟨{x.Server with Phase:=0,Last:=false,Ignore:=false},x.replies,x.mails⟩ else sayS ⟨{x.Server with Phase:=0,Last:=false,Ignore:=false},x.replies,x.mails⟩ 250 [okW]
def addR(x:Ses)(c:zfa):List zba:=jIa (x.Server.To++ [⟨c.Address,c.Notify⟩])
def WMa(x:Ses)(c:zfa):Ses:=bif (!x.Server.Mailing || x.Server.Chunked) then sayS x 503 [zYb] else if x.Server.Many < ((addR x c).length:Int) then sayS x 452 [[109,97,110,121]] else sayS ⟨{x.Server with To:=addR x c},x.replies,x.mails⟩ 250 [okW]
def Q5b :Str:=[115,105,122,101,32]
def Vra:Str:=[114,101,99,105,112,105,101,110,116,115,32]
def yma(x:Ses)(c:zfa):Ses:=
 if c.Verb=1 then sayS ⟨{(abS x).Server with Greeted:=true},x.replies,x.mails⟩ 250 [x.Server.Name,Q5b ++Lib.decDigits x.Server.Size.toNat,Vra++Lib.decDigits x.Server.Many.toNat]
 else if c.Verb=2 then (bif (!x.Server.Greeted || x.Server.Mailing) then sayS x 503 [zYb] else if x.Server.Size < c.Size then sayS x 552 [job] else sayS ⟨{x.Server with Mailing:=true,From:=c.Address},x.replies,x.mails⟩ 250 [okW])
 else if c.Verb=3 then WMa x c
 else if c.Verb=4 then (bif (x.Server.To.isEmpty || x.Server.Chunked) then sayS x 503 [zYb] else sayS ⟨{x.Server with Phase:=1},x.replies,x.mails⟩ 354 [[103,111,32,111,110]])
 else if c.Verb=5 then (if c.Size=0 then yga ⟨{x.Server with Phase:=2,Left:=c.Size,Last:=c.Last,Ignore:=x.Server.To.isEmpty,Chunked:= !x.Server.To.isEmpty},x.replies,x.mails⟩ else ⟨{x.Server with Phase:=2,Left:=c.Size,Last:=c.Last,Ignore:=x.Server.To.isEmpty,Chunked:= !x.Server.To.isEmpty},x.replies,x.mails⟩)
 else if c.Verb=6 then sayS (abS x) 250 [okW]
 else if c.Verb=8 then (sayS ⟨{(abS x).Server with Phase:=3,Buffer:=[]},x.replies,x.mails⟩ 221 [[98,121,101]])
 else sayS x 250 [okW]
def qdb:Str:=[117,110,107,110,111,119,110]
def syntaxW:Str:=[115,121,110,116,97,120]
def bufS(x:Ses)(b:List UInt8):Ses:=⟨{x.Server with Buffer:=b},x.replies,x.mails⟩
def JDa(x:Ses)(c:UInt8):Ses:=
 if [13,10].isSuffixOf (x.Server.Buffer++ [c]) then
  let r:=ZPa ((x.Server.Buffer++ [c]).take ((x.Server.Buffer++ [c]).length - 2))
  if r.2.Code=18 then sayS (bufS x []) 500 [qdb] else if r.2.Code=0 then yma (bufS x []) r.1 else sayS (bufS x []) 501 [syntaxW]
 else if (x.Server.Buffer++ [c]).length=4002 then sayS ⟨{(abS x).Server with Phase:=3,Buffer:=[]},x.replies,x.mails⟩ 500 [qdb]
 else bufS x (x.Server.Buffer++ [c])
def ZNb(x:Ses)(d:Int):Ses:=⟨{x.Server with Dots:=d},x.replies,x.mails⟩
def Wba(x:Ses)(c:UInt8):Ses:=
 if x.Server.Dots=0/\c=46 then ZNb x 1
 else if x.Server.Dots=1/\c=13 then ZNb x 2
 else if x.Server.Dots=2/\c=10 then Kva ⟨{x.Server with Phase:=0,Dots:=0},x.replies,x.mails⟩
 else ZNb (z2a (if x.Server.Dots=2 then z2a x 13 else x) c) (if c=13 then 4 else if c=10/\x.Server.Dots=4 then 0 else 3)
def v4a(x:Ses)(c:UInt8):Ses:=
 if x.Server.Phase=0 then JDa x c else if x.Server.Phase=1 then Wba x c
 else if x.Server.Phase=2 then
  let y:=bif x.Server.Ignore then x else z2a x c;let z:Ses:=⟨{y.Server with Left:=y.Server.Left - 1},y.replies,y.mails⟩
  if z.Server.Left=0 then yga z else z
 else x
structure SI (x:Ses) (n:Nat):Prop where
 size:1<=x.Server.Size/\x.Server.Size<=12000
 many:1<=x.Server.Many/\x.Server.Many<=60
 name:x.Server.Name.length<=40
 data:(x.Server.Data.length:Int)<=x.Server.Size
 buf:x.Server.Buffer.length<=4001
 tos:x.Server.To.length<=60/\∀r∈x.Server.To,qja r.Address=true/\qBa r.Notify=true
 lost:0<=x.Server.Lost/\x.Server.Lost<=1099511627776
 count:0<=x.Server.Count/\x.Server.Count<=1000000
 left:x.Server.Phase=2->1<=x.Server.Left/\x.Server.Left<=1000000
 chunk:x.Server.To=[]->x.Server.Chunked=false
 dots:x.Server.Phase≠1->x.Server.Dots=0
 reps:x.replies.length<=n
 mails:x.mails.length<=n
theorem wQa(x:Ses)(code:Int)(l:List Str)(h:x.replies.length<=1000000000):zpa x code l=some (sayS x code l):=by
 unfold zpa;rw[kRa (by simp;omega)];rfl
theorem ab_eq(x:Ses):z4a x=some (abS x):=rfl
theorem Q6b(x:Ses)(c:UInt8){n:Nat}(h:SI x n):kqa x c=some (z2a x c):=by
 have h1:=h.size;have h2:=h.data;have h3:=h.lost;unfold kqa z2a;by_cases hd:(x.Server.Data.length:Int) < x.Server.Size
 .rw[if_pos hd,decide_eq_true hd];simp only[cond_true];rw[kRa (by simp;omega)];rfl
 rw[if_neg hd,decide_eq_false hd];simp only[cond_false];rw[qwa (by omega) (by omega)]
theorem Kca{x:Ses}{n:Nat}(h:SI x n)(c:UInt8):SI (z2a x c) n:=by
 obtain ⟨a1,a2,a3,a4,a5,a6,a7,a8,a9,a10,a11,a12,a13⟩:=h;unfold z2a;split
 .exact ⟨a1,a2,a3,by simp;omega,a5,a6,a7,a8,a9,a10,a11,a12,a13⟩
 exact ⟨a1,a2,a3,a4,a5,a6,⟨by show 0<=min _ _;omega,by show min _ _<=_;omega⟩,a8,a9,a10,a11,a12,a13⟩
theorem zZb{α:Type}{lim:Nat}(l:List α)(h:l.length<=lim):(nilE l.isEmpty (some ([]:List α)) ((app lim ([]:List α) l).bind fun v=>some v))=some l:=by
 rw[qOb]
 .rw[kRa (by simpa using h)];rfl
 intro he;have:=jDi.1 he;subst this;rw[kRa (by simp)];rfl
theorem JEa(l:List zba)(h:l.length<=1048576):zva l=some l:=zZb l (by omega)
theorem JFa(l:List UInt8)(h:l.length<=1048576):k2a l=some l:=zZb l (by omega)
theorem qeb{c:Int}(h:0<=c/\c<=1000000):zMa (w64 (c+1))=some (Lib.decDigits (c+1).toNat):=by
 have e:w64 (c+1)=(((c+1).toNat:Nat):Int):=by rw[qwa (by omega) (by omega)];omega
 rw[e,jEa _ (by omega)]
theorem QCa{n:Nat}(h:n<=1000001):(Lib.decDigits n).length<=7:=yGa 6 n (by omega)
theorem jqb(x:Ses){n:Nat}(h:SI x n)(hn:n<=1000000):kha x=some (Kva x):=by
 obtain ⟨f,hf,hc⟩:=JAa x.Server.Data (by have:=h.size;have:=h.data;omega);have h1:=h.reps;have h2:=h.mails;have h3:=h.name;have h4:=h.tos.1;have h5:=h.count;unfold kha Kva;rw[hf];simp only[jAc];by_cases hl:0 < x.Server.Lost
 .rw[if_pos hl,decide_eq_true hl];simp only[cond_true];rw[wQa _ _ _ (by omega)];rfl
 rw[if_neg hl,decide_eq_false hl];simp only[cond_false,zBa,jAc];rw[hc];have e:(bif (!(jPa x.Server.Data).2) then some true else some (x.Server.Count==1000000))=some (decide ((jPa x.Server.Data).2=false∨x.Server.Count=1000000)):=by
  cases (jPa x.Server.Data).2 with
  | false=>simp
  | true=>
   simp only[jBf,cond_false,Option.some.injEq];rw[jAo];simp
 rw[e];simp only[jAc];by_cases hr:(jPa x.Server.Data).2=false∨x.Server.Count=1000000
 .rw[if_pos hr,decide_eq_true hr];simp only[cond_true];rw[wQa _ _ _ (by omega)];rfl
 rw[if_neg hr,decide_eq_false hr];simp only[cond_false];rw[vfa (by simp;omega)];simp only[jAc];rw[qeb h5];simp only[jAc];have:=QCa (n:=(x.Server.Count+1).toNat) (by omega);rw[vfa (by simp;omega)];simp only[jAc];rw[JEa _ (by omega)];simp only[jAc];rw[kRa (by simp;omega)];simp only[jAc];rw[qwa (by omega) (by omega),wQa _ _ _ (by show x.replies.length<=_;omega)];rfl
theorem jrb:∀(l:List zba) (n:Int),qBa n=true->(∀r∈l,qBa r.Notify=true)->qBa (orL n l)=true
 | [],n,h,_=>h
 | r::l,n,h,hl=>jrb l (iOr n r.Notify) (eith_or h (hl r (by simp))).2 fun x hx=>hl x (by simp[hx])
theorem Yaa:∀(n:Nat) (l:List zba),(∀r∈l,qja r.Address=true/\qBa r.Notify=true)->(yUa n l).length<=l.length/\∀r∈yUa n l,qja r.Address=true/\qBa r.Notify=true
 | 0,l,_=>by simp[yUa]
 | n+1,[],_=>by simp[yUa]
 | n+1,r::t,h=>by
  obtain ⟨h1,h2⟩:=Yaa n (t.filter fun x=> !kTa r.Address x) fun x hx=>h x (by simp[(jDe.1 hx).1])
  have h3:=List.length_filter_le (fun x=> !kTa r.Address x) t;unfold yUa;refine ⟨by simp only[jAu];omega,fun x hx=>?_⟩;rcases jBh.1 hx with rfl | hx
  .exact ⟨(h r (by simp)).1,jrb _ _ (h r (by simp)).2 fun y hy=>(h y (by simp[(jDe.1 hy).1])).2⟩
  exact h2 x hx
theorem Yba{l:List zba}(h:∀r∈l,qja r.Address=true/\qBa r.Notify=true):(jIa l).length<=l.length/\∀r∈jIa l,qja r.Address=true/\qBa r.Notify=true:=Yaa l.length l h
theorem Q7b{l:List zba}(h:l≠ []):jIa l≠ []:=by
 cases l with
 | nil=>exact absurd rfl h
 | cons r t=>rw[Vma];simp
theorem Q8b{l:List zba}(h:∀r∈l,qja r.Address=true/\qBa r.Notify=true)(hl:l.length<=300):y5b l=(jIa l,⟨0,0⟩):=by
 unfold y5b;rw[if_neg (by omega)];have:zPa mq 0 l=none:=qia.2 fun i x hx=>by
  obtain ⟨h1,h2⟩:=h x (jAi hx);unfold mq;rw[h1,h2];rfl
 rw[this]
theorem z0b{l:List zba}(h:∀r∈l,qja r.Address=true/\qBa r.Notify=true)(hl:l.length<=1048576):zGb l:=⟨hl,fun r hr=>by have:=Z8a (h r hr).1;omega⟩
theorem JGa{s:Str}(h:(ZPa s).2.Code=0):wTa (ZPa s).1:=by
 unfold ZPa at h ⊢;split at h
 .exact absurd h (by decide)
 rename_i h1;rw[if_neg h1];split at h
 .exact absurd h (by decide)
 rename_i h2;rw[if_neg h2];cases hc:y2a (ZLb (yba s)) ((yba s).drop 1) with
 | none=>rw[hc]at h;exact absurd h (by decide)
 | some c=>
  rw[hc]at h;have h:(finP c).2.Code=0:=h;show wTa (finP c).1;unfold finP at h ⊢;by_cases hz:(cmdF c).Code=0
  .rw[hz];exact (Qjb hz).1
  rw[bne_iff_ne.2 hz]at h;exact absurd h hz
theorem vza{x:Ses}{n:Nat}(h:SI x n)(code:Int)(l:List Str):SI (sayS x code l) (n+1):=by
 obtain ⟨a1,a2,a3,a4,a5,a6,a7,a8,a9,a10,a11,a12,a13⟩:=h;exact ⟨a1,a2,a3,a4,a5,a6,a7,a8,a9,a10,a11,by show (x.replies++_).length<=_;simp;omega,by show x.mails.length<=_;omega⟩
theorem vVb{x:Ses}{n:Nat}(h:SI x n):SI (abS x) n:=by
 obtain ⟨a1,a2,a3,a4,a5,a6,a7,a8,a9,a10,a11,a12,a13⟩:=h;exact ⟨a1,a2,a3,by show ((0:Nat):Int)<=x.Server.Size;omega,a5,⟨by simp[abS],fun r hr=>by simp[abS]at hr⟩,⟨by show (0:Int)<=0;omega,by show (0:Int)<=_;omega⟩,a8,a9,fun _=>rfl,a11,a12,a13⟩
theorem SI.up{x:Ses}{n:Nat}(h:SI x n):SI x (n+1):=by
 obtain ⟨a1,a2,a3,a4,a5,a6,a7,a8,a9,a10,a11,a12,a13⟩:=h;exact ⟨a1,a2,a3,a4,a5,a6,a7,a8,a9,a10,a11,by omega,by omega⟩
theorem jsb{x:Ses}{n:Nat}(h:SI x n):SI (Kva x) (n+1):=by
 unfold Kva;refine vVb ?_;split
 .exact vza h _ _
 split
 .exact vza h _ _
 rename_i hr;obtain ⟨a1,a2,a3,a4,a5,a6,a7,a8,a9,a10,a11,a12,a13⟩:=h;have hc:x.Server.Count≠1000000:=fun e=>hr (.inr e)
 exact ⟨a1,a2,a3,a4,a5,a6,a7,⟨by show 0<=x.Server.Count+1;omega,by show x.Server.Count+1<=_;omega⟩,a9,a10,a11,by show (x.replies++_).length<=_;simp;omega,by show (x.mails++_).length<=_;simp;omega⟩
theorem vWb{x:Ses}{n:Nat}(h:SI x n)(hd:x.Server.Dots=0):SI ⟨{x.Server with Phase:=0,Last:=false,Ignore:=false},x.replies,x.mails⟩ n:=by
 obtain ⟨a1,a2,a3,a4,a5,a6,a7,a8,a9,a10,a11,a12,a13⟩:=h;exact ⟨a1,a2,a3,a4,a5,a6,a7,a8,fun e=>absurd (show (0:Int)=2 from e) (by decide),a10,fun _=>hd,a12,a13⟩
theorem vXb{x:Ses}{n:Nat}(h:SI x n){c:zfa}(ok:wTa c)(hv:c.Verb=3):∀r∈x.Server.To++ [(⟨c.Address,c.Notify⟩:zba)],qja r.Address=true/\qBa r.Notify=true:=by
 intro r hr;rcases jCc.1 hr with hr | hr
 .exact h.tos.2 r hr
 rw[jBi]at hr;subst hr;refine ⟨ok.addr (.inl hv),?_⟩;have:=ok.note;show qBa c.Notify=true;unfold qBa;rw[decide_eq_true this.1,decide_eq_true this.2];rfl
theorem rcpt_eq(x:Ses){n:Nat}(h:SI x n)(hn:n<=1000000){c:zfa}(ok:wTa c)(hv:c.Verb=3):kGa x c=some (WMa x c):=by
 have hl:=vXb h ok hv;have h60:=h.tos.1;have hr:=h.reps;have hlen:(x.Server.To++ [(⟨c.Address,c.Notify⟩:zba)]).length<=61:=by simp;omega
 unfold kGa WMa;rw[JEa _ (by omega)];simp only[jAc];rw[kRa (by simp;omega)];simp only[jAc];rw[WHa _ (z0b hl (by omega)),Q8b hl (by omega)];simp only[jAc];have e:(bif (!x.Server.Mailing) then some true else some x.Server.Chunked)=some (!x.Server.Mailing || x.Server.Chunked):=by cases x.Server.Mailing <;> rfl
 rw[e];simp only[jAc];cases !x.Server.Mailing || x.Server.Chunked with
 | true=>
  simp only[cond_true];rw[wQa _ _ _ (by omega)];rfl
 | false=>
  simp only[cond_false];unfold addR;by_cases hm:x.Server.Many < ((jIa (x.Server.To++ [⟨c.Address,c.Notify⟩])).length:Int)
  .rw[if_pos hm,decide_eq_true hm];simp only[cond_true];rw[wQa _ _ _ (by omega)];rfl
  rw[if_neg hm,decide_eq_false hm];simp only[cond_false];rw[wQa _ _ _ (by show x.replies.length<=_;omega)];rfl
theorem rcptS_si{x:Ses}{n:Nat}(h:SI x n){c:zfa}(ok:wTa c)(hv:c.Verb=3):SI (WMa x c) (n+1):=by
 have hl:=vXb h ok hv;obtain ⟨h1,h2⟩:=Yba hl;have h3:=Q7b (l:=x.Server.To++ [(⟨c.Address,c.Notify⟩:zba)]) (by simp);unfold WMa;cases !x.Server.Mailing || x.Server.Chunked with
 | true=>exact vza h _ _
 | false=>
  simp only[cond_false];split
  .exact vza h _ _
  rename_i hm;refine vza ?_ _ _;obtain ⟨a1,a2,a3,a4,a5,a6,a7,a8,a9,a10,a11,a12,a13⟩:=h;exact ⟨a1,a2,a3,a4,a5,⟨by show (addR x c).length<=60;omega,h2⟩,a7,a8,a9,fun e=>absurd e h3,a11,a12,a13⟩
theorem vYb{x:Ses}{n:Nat}(h:SI x n)(hd:x.Server.Dots=0)(c:zfa):SI ⟨{x.Server with Phase:=0,Left:=c.Size,Last:=c.Last,Ignore:=x.Server.To.isEmpty,Chunked:= !x.Server.To.isEmpty},x.replies,x.mails⟩ n:=by
 obtain ⟨a1,a2,a3,a4,a5,a6,a7,a8,a9,a10,a11,a12,a13⟩:=h;exact ⟨a1,a2,a3,a4,a5,a6,a7,a8,fun e=>absurd (show (0:Int)=2 from e) (by decide),fun e=>by
  have e:x.Server.To=[]:=e;show (!x.Server.To.isEmpty)=false;rw[e];rfl,fun _=>hd,a12,a13⟩
theorem Wca(l:List zba):((l.length:Int)==0)=l.isEmpty:=by cases l <;> simp;omega
theorem z1b{x:Ses}{n:Nat}(h:SI ⟨{x.Server with Phase:=0},x.replies,x.mails⟩ n)(hd:x.Server.Dots=0):SI (yga x) (n+1):=by
 have h0:SI ⟨{x.Server with Phase:=0,Last:=false,Ignore:=false},x.replies,x.mails⟩ n:=vWb (x:=⟨{x.Server with Phase:=0},x.replies,x.mails⟩) h hd;unfold yga;cases x.Server.Ignore with
 | true=>exact vza h0 _ _
 | false=>
  cases x.Server.Last with
  | true=>exact jsb h0
  | false=>exact vza h0 _ _
theorem execS_si{x:Ses}{n:Nat}(h:SI x n)(hp:x.Server.Phase=0){c:zfa}(ok:wTa c):SI (yma x c) (n+1):=by
 have hd:x.Server.Dots=0:=h.dots (by rw[hp];decide);have hv:=ok.verb;have hs:=ok.size;unfold yma;by_cases h1:c.Verb=1
 .rw[if_pos h1];refine vza ?_ _ _;obtain ⟨a1,a2,a3,a4,a5,a6,a7,a8,a9,a10,a11,a12,a13⟩:=vVb h;exact ⟨a1,a2,a3,a4,a5,a6,a7,a8,a9,a10,a11,a12,a13⟩
 rw[if_neg h1];by_cases h2:c.Verb=2
 .rw[if_pos h2];cases !x.Server.Greeted || x.Server.Mailing with
  | true=>exact vza h _ _
  | false=>
   simp only[cond_false];split
   .exact vza h _ _
   refine vza ?_ _ _;obtain ⟨a1,a2,a3,a4,a5,a6,a7,a8,a9,a10,a11,a12,a13⟩:=h;exact ⟨a1,a2,a3,a4,a5,a6,a7,a8,a9,a10,a11,a12,a13⟩
 rw[if_neg h2];by_cases h3:c.Verb=3
 .rw[if_pos h3];exact rcptS_si h ok h3
 rw[if_neg h3];by_cases h4:c.Verb=4
 .rw[if_pos h4];cases x.Server.To.isEmpty || x.Server.Chunked with
  | true=>exact vza h _ _
  | false=>
   refine vza ?_ _ _;obtain ⟨a1,a2,a3,a4,a5,a6,a7,a8,a9,a10,a11,a12,a13⟩:=h;exact ⟨a1,a2,a3,a4,a5,a6,a7,a8,fun e=>absurd (show (1:Int)=2 from e) (by decide),a10,fun _=>hd,a12,a13⟩
 rw[if_neg h4];by_cases h5:c.Verb=5
 .rw[if_pos h5];by_cases hz:c.Size=0
  .rw[if_pos hz];have hq:=vYb h hd c;exact z1b (x:=⟨{x.Server with Phase:=2,Left:=c.Size,Last:=c.Last,Ignore:=x.Server.To.isEmpty,Chunked:= !x.Server.To.isEmpty},x.replies,x.mails⟩) hq hd
  rw[if_neg hz];have h' :=h.up;obtain ⟨a1,a2,a3,a4,a5,a6,a7,a8,a9,a10,a11,a12,a13⟩:=h';exact ⟨a1,a2,a3,a4,a5,a6,a7,a8,fun _=>⟨by show 1<=c.Size;omega,hs.2⟩,fun e=>by
   have e:x.Server.To=[]:=e;show (!x.Server.To.isEmpty)=false;rw[e];rfl,fun _=>hd,a12,a13⟩
 rw[if_neg h5];by_cases h6:c.Verb=6
 .rw[if_pos h6];exact vza (vVb h) _ _
 rw[if_neg h6];by_cases h8:c.Verb=8
 .rw[if_pos h8];refine vza ?_ _ _;obtain ⟨a1,a2,a3,a4,a5,a6,a7,a8,a9,a10,a11,a12,a13⟩:=vVb h;exact ⟨a1,a2,a3,a4,by show (0:Nat)<=4001;omega,a6,a7,a8,fun e=>absurd (show (3:Int)=2 from e) (by decide),a10,fun _=>hd,a12,a13⟩
 rw[if_neg h8];exact vza h _ _
theorem qfb(l:List UInt8)(c:UInt8): [13,10].isSuffixOf (l++ [c])=(decide (2<=(l++ [c]).length) && (((l++ [c])[(l++ [c]).length - 2]?).elim false (· ==13) && c==10)):=by
 rcases List.eq_nil_or_concat l with rfl | ⟨p,y,rfl⟩
 .have h1:([13,10]:List UInt8).isSuffixOf ([]++ [c])=false:=by
   rw[jCo];intro h;have:=(jBk.1 h).length_le;simp at this
  rw[h1];rfl
 rw[List.concat_eq_append,jAo,jBk];have e1:(p++ [y]++ [c]).length - 2=p.length:=by simp
 rw[e1];have e2:(p++ [y]++ [c])[p.length]? =some y:=by simp
 rw[e2];simp only[Option.elim_some,jAh,beq_iff_eq,decide_eq_true_eq];constructor
 .rintro ⟨t,ht⟩;rw[show p++ [y]++ [c]=p++ [y,c] by simp]at ht;have:=(List.append_inj' ht rfl).2;simp at this;exact ⟨by simp,this.1.symm,this.2.symm⟩
 rintro ⟨_,rfl,rfl⟩;exact ⟨p,by simp⟩
theorem ynb{x:Ses}{n:Nat}(h:SI x n){b:List UInt8}(hb:b.length<=4001):SI (bufS x b) n:=by
 obtain ⟨a1,a2,a3,a4,a5,a6,a7,a8,a9,a10,a11,a12,a13⟩:=h;exact ⟨a1,a2,a3,a4,hb,a6,a7,a8,a9,a10,a11,a12,a13⟩
theorem lineS_si{x:Ses}{n:Nat}(h:SI x n)(hp:x.Server.Phase=0)(c:UInt8):SI (JDa x c) (n+1):=by
 have hb:=h.buf;have h0:=ynb h (b:=[]) (by simp);have hd:x.Server.Dots=0:=h.dots (by rw[hp];decide);have hlen:(x.Server.Buffer++ [c]).length=x.Server.Buffer.length+1:=by simp
 unfold JDa;split
 .generalize hR:ZPa ((x.Server.Buffer++ [c]).take ((x.Server.Buffer++ [c]).length - 2))=r;dsimp only;split
  .exact vza h0 _ _
  split
  .rename_i hz;exact execS_si h0 hp (by rw[<-hR]at hz ⊢;exact JGa hz)
  exact vza h0 _ _
 split
 .refine vza ?_ _ _;obtain ⟨a1,a2,a3,a4,a5,a6,a7,a8,a9,a10,a11,a12,a13⟩:=vVb h;exact ⟨a1,a2,a3,a4,by show (0:Nat)<=4001;omega,a6,a7,a8,fun e=>absurd (show (3:Int)=2 from e) (by decide),a10,fun _=>hd,a12,a13⟩
 rename_i h4;exact (ynb h (by omega)).up
theorem vma(x:Ses)(c:UInt8):(z2a x c).Server.Dots=x.Server.Dots/\(z2a x c).Server.Phase=x.Server.Phase:=by unfold z2a;split <;> exact ⟨rfl,rfl⟩
theorem YJa{x:Ses}{n:Nat}(h:SI x n)(hp:x.Server.Phase=1)(d:Int):SI (ZNb x d) n:=by
 obtain ⟨a1,a2,a3,a4,a5,a6,a7,a8,a9,a10,a11,a12,a13⟩:=h;exact ⟨a1,a2,a3,a4,a5,a6,a7,a8,a9,a10,fun e=>absurd hp e,a12,a13⟩
theorem qgb(p q:Prop)[Decidable p][Decidable q]:(bif decide p then some (decide q) else some false)=some (decide (p/\q)):=by
 by_cases hp:p <;> by_cases hq:q <;> simp[hp,hq]
theorem deq(a b:Int):(a==b)=decide (a=b):=by rw[jAo];simp
theorem Q9b(x:Ses){n:Nat}(h:SI x n)(c:UInt8):kta c x=some (ZNb (z2a x c) (if c=13 then 4 else if c=10/\x.Server.Dots=4 then 0 else 3)):=by
 unfold kta;rw[Q6b x c h];simp only[jAc];rw[(vma x c).1,ZIa c 13 (by decide),ZIa c 10 (by decide),K3a,K3a,deq,qgb];simp only[jAc];by_cases h13:c=13
 .rw[if_pos h13,decide_eq_true h13];rfl
 rw[if_neg h13,decide_eq_false h13];by_cases h10:c=10/\x.Server.Dots=4
 .rw[if_pos h10,decide_eq_true h10];rfl
 rw[if_neg h10,decide_eq_false h10];rfl
theorem jtb{x:Ses}{n:Nat}(h:SI x n):SI ⟨{x.Server with Phase:=0,Dots:=0},x.replies,x.mails⟩ n:=by
 obtain ⟨a1,a2,a3,a4,a5,a6,a7,a8,a9,a10,a11,a12,a13⟩:=h;exact ⟨a1,a2,a3,a4,a5,a6,a7,a8,fun e=>absurd (show (0:Int)=2 from e) (by decide),a10,fun _=>rfl,a12,a13⟩
theorem dataS_si{x:Ses}{n:Nat}(h:SI x n)(hp:x.Server.Phase=1)(c:UInt8):SI (Wba x c) (n+1):=by
 unfold Wba;split
 .exact (YJa h hp _).up
 split
 .exact (YJa h hp _).up
 split
 .exact jsb (jtb h)
 split
 .exact (YJa (Kca (Kca h 13) c) (by rw[(vma _ _).2,(vma _ _).2];exact hp) _).up
 exact (YJa (Kca h c) (by rw[(vma _ _).2];exact hp) _).up
def yob(x:Ses):Ses:=⟨{x.Server with Left:=x.Server.Left - 1},x.replies,x.mails⟩
theorem jub{x:Ses}{n:Nat}(h:SI x n)(hp:x.Server.Phase=2):SI ⟨{(yob x).Server with Phase:=0},x.replies,x.mails⟩ n/\((yob x).Server.Left≠0->SI (yob x) n):=by
 have hl:=h.left hp;have hd:x.Server.Dots=0:=h.dots (by rw[hp];decide);obtain ⟨a1,a2,a3,a4,a5,a6,a7,a8,a9,a10,a11,a12,a13⟩:=h;refine ⟨⟨a1,a2,a3,a4,a5,a6,a7,a8,fun e=>absurd (show (0:Int)=2 from e) (by decide),a10,fun _=>hd,a12,a13⟩,fun hz=>⟨a1,a2,a3,a4,a5,a6,a7,a8,fun _=>?_,a10,fun _=>hd,a12,a13⟩⟩;have hz:x.Server.Left - 1≠0:=hz;exact ⟨by show 1<=x.Server.Left - 1;omega,by show x.Server.Left - 1<=_;omega⟩
theorem jvb{x:Ses}{n:Nat}(h:SI x n)(c:UInt8):SI (v4a x c) (n+1):=by
 unfold v4a;split
 .rename_i hp;exact lineS_si h hp c
 split
 .rename_i hp;exact dataS_si h hp c
 split
 .rename_i hp;have hy:SI (bif x.Server.Ignore then x else z2a x c) n/\(bif x.Server.Ignore then x else z2a x c).Server.Phase=2:=by
   cases x.Server.Ignore with
   | true=>exact ⟨h,hp⟩
   | false=>exact ⟨Kca h c,by rw[show (bif false then x else z2a x c)=z2a x c from rfl,(vma x c).2];exact hp⟩
  generalize (bif x.Server.Ignore then x else z2a x c)=y at hy;obtain ⟨hy,hyp⟩:=hy;obtain ⟨h1,h2⟩:=jub hy hyp;show SI (if (yob y).Server.Left=0 then yga (yob y) else yob y) (n+1);split
  .exact z1b h1 (hy.dots (by rw[hyp];decide))
  rename_i hz;exact (h2 hz).up
 exact h.up
def zRa(x:Ses)(b:List UInt8):Ses:=b.foldl v4a x
def jQa(name:Str)(size many:Int):zqa:=if v3a name=false∨40 < name.length then ⟨10, -20⟩ else if size < 1∨12000 < size then ⟨3, -21⟩ else if many < 1∨60 < many then ⟨3, -22⟩ else ⟨0,0⟩
theorem Vab(p q:Prop)[Decidable p][Decidable q]:(bif decide p then some true else some (decide q))=some (decide (p∨q)):=by
 by_cases hp:p <;> by_cases hq:q <;> simp[hp,hq]
theorem not_dec(b:Bool):(!b)=decide (b=false):=by cases b <;> rfl
theorem len40(s:Str):decide ((40:Int) < (s.length:Int))=decide (40 < s.length):=by rw[jAo];simp;omega
theorem Vbb(name:Str)(size many:Int)(h:name.length<=1048576):qua name size many=some (jQa name size many):=by
 unfold qua jQa;rw[jha _ h];simp only[jAc];rw[not_dec,len40,Vab,Vab,Vab];simp only[jAc,zAa,zLa];by_cases h1:v3a name=false∨40 < name.length
 .rw[if_pos h1,decide_eq_true h1];rfl
 rw[if_neg h1,decide_eq_false h1];by_cases h2:size < 1∨12000 < size
 .rw[if_pos h2,decide_eq_true h2];rfl
 rw[if_neg h2,decide_eq_false h2];by_cases h3:many < 1∨60 < many
 .rw[if_pos h3,decide_eq_true h3];rfl
 rw[if_neg h3,decide_eq_false h3];rfl
theorem in_not(a b c:Int):(!(decide (b<=a) && decide (a<=c)))=decide (a < b∨c < a):=by
 rw[jAo];simp only[jCn,Bool.and_eq_false_iff,decide_eq_false_iff_not,decide_eq_true_eq];omega
theorem Vcb(a b c:Bool):(bif a then some b else some c)=some (bif a then b else c):=by cases a <;> rfl
theorem Vdb(a b:Bool):(bif a then b else false)=(a && b):=by cases a <;> rfl
theorem cnd_or(a b:Bool):(bif a then true else b)=(a || b):=by cases a <;> rfl
theorem jwb(a b:Bool):(bif a then false else b)=(!a && b):=by cases a <;> rfl
theorem z2b(a b c:Int):qsa a b c=some (decide (b<=a) && decide (a<=c)):=by
 unfold qsa;cases decide (b<=a) <;> rfl
def WNa(b:List UInt8):Bool:=decide (Lib.index b [13,10]≠ -1)
theorem ypb(b:List UInt8)(h:b.length<=1048576):wza b [13,10]=some (WNa b):=by
 unfold wza qWa WNa;rw[if_pos ⟨by omega,rfl⟩];simp only[jAc,Option.some.injEq];rw[jAo];simp
def okB(s:zsa):Bool:=
 !((s.From !=([]:Str) && !qja s.From) || decide (s.Many < (s.To.length:Int)) || (recF s.To).Code !=0) &&
 !((!s.Greeted && s.Mailing) || (!s.Mailing && (s.From !=([]:Str) || !s.To.isEmpty)) || (s.Chunked && s.To.isEmpty)) &&
 !(decide (s.Size < (s.Data.length:Int)) || decide (s.Lost < 0∨1099511627776 < s.Lost) || decide (s.Count < 0∨1000000 < s.Count)) &&
 !((decide (0 < (s.Data.length:Int)) || decide (0 < s.Lost)) && (!s.Chunked && s.Phase !=1)) &&
 (
  bif s.Phase==0 then decide ((s.Buffer.length:Int) < 4002) && (!WNa s.Buffer && (s.Dots==0 && (s.Left==0 && (!s.Last && !s.Ignore))))
  else bif s.Phase==1 then !s.To.isEmpty && (!s.Chunked && (s.Buffer.isEmpty && (decide (0<=s.Dots) && decide (s.Dots<=4) && (s.Left==0 && (!s.Last && !s.Ignore)))))
  else bif s.Phase==2 then (s.Ignore==s.To.isEmpty) && ((s.Ignore== !s.Chunked) && (s.Buffer.isEmpty && (s.Dots==0 && (decide (1<=s.Left) && decide (s.Left<=1000000)))))
  else bif s.Phase==3 then !s.Mailing && (s.Buffer.isEmpty && (s.Dots==0 && (s.Left==0 && (!s.Last && !s.Ignore)))) else false)
structure jxb (s:zsa):Prop where
 frm:s.From.length<=1048576
 tos:zGb s.To
 buf:s.Buffer.length<=1048576
 data:s.Data.length<=1048576
 name:s.Name.length<=1048576
theorem Veb(l:List zba):decide ((0:Int) < (l.length:Int))= !l.isEmpty:=by cases l <;> simp
theorem jyb(l:List UInt8):decide ((0:Int) < (l.length:Int))= !l.isEmpty:=by cases l <;> simp
theorem z3b(l:List UInt8):((l.length:Int)==0)=l.isEmpty:=by cases l <;> simp;omega
theorem phase_eq(s:zsa)(h:jxb s):y1a s=some (bif s.Phase==0 then decide ((s.Buffer.length:Int) < 4002) && (!WNa s.Buffer && (s.Dots==0 && (s.Left==0 && (!s.Last && !s.Ignore))))
 else bif s.Phase==1 then !s.To.isEmpty && (!s.Chunked && (s.Buffer.isEmpty && (decide (0<=s.Dots) && decide (s.Dots<=4) && (s.Left==0 && (!s.Last && !s.Ignore)))))
 else bif s.Phase==2 then (s.Ignore==s.To.isEmpty) && ((s.Ignore== !s.Chunked) && (s.Buffer.isEmpty && (s.Dots==0 && (decide (1<=s.Left) && decide (s.Left<=1000000)))))
 else bif s.Phase==3 then !s.Mailing && (s.Buffer.isEmpty && (s.Dots==0 && (s.Left==0 && (!s.Last && !s.Ignore)))) else false):=by
 unfold y1a;rw[ypb _ h.buf];simp only[jAc,z2b,Veb,Wca,z3b,Vcb,Vdb,cnd_or,jwb]
theorem Vfb(s:zsa)(h:jxb s):yfa s=some (okB s):=by
 have h1:=h.frm;unfold yfa okB;rw[qAa _ (by omega),yna _ h.tos,phase_eq s h];simp only[jAc,z2b,zBa,Vcb,Vdb,cnd_or,jwb,Veb,Wca,z3b,jyb,in_not,Option.some.injEq];cases s.From !=([]:Str) <;> cases qja s.From <;> cases s.Greeted <;> cases s.Mailing <;> cases s.Chunked <;> cases s.To.isEmpty <;> cases s.Data.isEmpty <;> simp[jDw]
def zeroS:zsa:=⟨[],0,0,0,false,false,[],[],[],[],0,0,false,0,false,false,0⟩
def srvF(s:zsa):zqa:=if (jQa s.Name s.Size s.Many).Code≠0 then jQa s.Name s.Size s.Many else if okB s=false then ⟨5, -23⟩ else ⟨0,0⟩
theorem JHa{n:Str}{a b:Int}(h:(jQa n a b).Code=0):jQa n a b=⟨0,0⟩/\n.length<=40/\v3a n=true/\(1<=a/\a<=12000)/\(1<=b/\b<=60):=by
 unfold jQa at h ⊢;by_cases h1:v3a n=false∨40 < n.length
 .rw[if_pos h1]at h;exact absurd h (by decide)
 rw[if_neg h1]at h ⊢;by_cases h2:a < 1∨12000 < a
 .rw[if_pos h2]at h;exact absurd h (by decide)
 rw[if_neg h2]at h ⊢;by_cases h3:b < 1∨60 < b
 .rw[if_pos h3]at h;exact absurd h (by decide)
 rw[if_neg h3];refine ⟨rfl,by omega,?_,by omega,by omega⟩;cases hn:v3a n with
 | true=>rfl
 | false=>exact absurd (.inl hn) h1
theorem qhb{s:zsa}(h:(srvF s).Code=0):(jQa s.Name s.Size s.Many).Code=0/\okB s=true/\srvF s=⟨0,0⟩:=by
 unfold srvF at h ⊢;by_cases h1:(jQa s.Name s.Size s.Many).Code≠0
 .rw[if_pos h1]at h;exact absurd h h1
 rw[if_neg h1]at h ⊢;by_cases h2:okB s=false
 .rw[if_pos h2]at h;exact absurd h (by decide)
 rw[if_neg h2];exact ⟨Decidable.not_not.1 h1,by simpa using h2,rfl⟩
theorem jzb{s:zsa}(h:(srvF s).Code=0):SI ⟨s,[],[]⟩ 0:=by
 obtain ⟨hc,ho,_⟩:=qhb h;obtain ⟨_,c1,c2,c3,c4⟩:=JHa hc;unfold okB at ho;simp only[jAh]at ho;obtain ⟨⟨⟨⟨o1,o2⟩,o3⟩,o4⟩,o5⟩:=ho;simp only[jCn,jCe,decide_eq_false_iff_not]at o1 o2 o3;obtain ⟨⟨f1,f2⟩,f3⟩:=o1;obtain ⟨⟨g1,g2⟩,g3⟩:=o2;obtain ⟨⟨d1,d2⟩,d3⟩:=o3;have hrec:(recF s.To).Code=0:=by simpa[bne]using f3
 refine ⟨c3,c4,c1,by show (s.Data.length:Int)<=s.Size;omega,?_,⟨by show s.To.length<=60;omega,(YGa hrec).1⟩,by show 0<=s.Lost/\s.Lost<=_;omega,by show 0<=s.Count/\s.Count<=_;omega,?_,?_,?_,jAn _,jAn _⟩
 .show s.Buffer.length<=4001;by_cases p0:s.Phase=0
  .rw[p0]at o5;simp at o5;omega
  have:s.Buffer.isEmpty=true:=by
   rw[beq_eq_false_iff_ne.2 p0]at o5;by_cases p1:s.Phase=1
   .rw[p1]at o5;simp at o5;simp[o5]
   by_cases p2:s.Phase=2
   .rw[p2]at o5;simp at o5;simp[o5]
   by_cases p3:s.Phase=3
   .rw[p3]at o5;simp at o5;simp[o5]
   rw[beq_eq_false_iff_ne.2 p1,beq_eq_false_iff_ne.2 p2,beq_eq_false_iff_ne.2 p3]at o5;cases o5
  rw[jDi.1 this];simp
 .intro p2;have p2:s.Phase=2:=p2;rw[p2]at o5;simp at o5;show 1<=s.Left/\s.Left<=1000000;exact ⟨o5.2.2.2.2.1,o5.2.2.2.2.2⟩
 .intro e;have e:s.To=[]:=e;show s.Chunked=false;rw[e]at g3;simpa using g3
 intro p1;have p1:s.Phase≠1:=p1;show s.Dots=0;by_cases p0:s.Phase=0
 .rw[p0]at o5;simp at o5;exact o5.2.2.1
 rw[beq_eq_false_iff_ne.2 p0,beq_eq_false_iff_ne.2 p1]at o5;by_cases p2:s.Phase=2
 .rw[p2]at o5;simp at o5;exact o5.2.2.2.1
 by_cases p3:s.Phase=3
 .rw[p3]at o5;simp at o5;exact o5.2.2.1
 rw[beq_eq_false_iff_ne.2 p2,beq_eq_false_iff_ne.2 p3]at o5;cases o5
def newF(n:Str)(a b:Int):zsa × zra × zqa:=if (jQa n a b).Code≠0 then (zeroS,⟨0,[]⟩,jQa n a b) else (⟨n,a,b,0,false,false,[],[],[],[],0,0,false,0,false,false,0⟩,⟨220,[n]⟩,⟨0,0⟩)
def Out(x:Ses):Prop:=(∀r∈x.replies,r.Lines.length<=3)/\∀m∈x.mails,m.Envelope.To.length<=60/\m.Message.Fields.length<=60
structure VS (s:zsa):Prop where
 frm:s.From=[]∨qja s.From=true
 len:(s.To.length:Int)<=s.Many
 tos:(recF s.To).Code=0
 greet:s.Mailing=true->s.Greeted=true
 quiet:s.Mailing=false->s.From=[]/\s.To=[]
 chunk:s.Chunked=true->s.To≠ []
 data:(s.Data.length:Int)<=s.Size
 lost:0<=s.Lost/\s.Lost<=1099511627776
 count:0<=s.Count/\s.Count<=1000000
 dat:s.Chunked=false->s.Phase≠1->s.Data=[]/\s.Lost=0
 p0:s.Phase=0->s.Buffer.length<=4001/\WNa s.Buffer=false/\s.Dots=0/\s.Left=0/\s.Last=false/\s.Ignore=false
 p1:s.Phase=1->s.To≠ []/\s.Chunked=false/\s.Buffer=[]/\(0<=s.Dots/\s.Dots<=4)/\s.Left=0/\s.Last=false/\s.Ignore=false
 p2:s.Phase=2->s.Ignore=s.To.isEmpty/\s.Ignore= !s.Chunked/\s.Buffer=[]/\s.Dots=0/\(1<=s.Left/\s.Left<=1000000)
 p3:s.Phase=3->s.Mailing=false/\s.Buffer=[]/\s.Dots=0/\s.Left=0/\s.Last=false/\s.Ignore=false
 ph:s.Phase=0∨s.Phase=1∨s.Phase=2∨s.Phase=3
theorem vZb(s:zsa):okB s=true↔(¬((s.From≠ []/\qja s.From=false)∨s.Many < (s.To.length:Int)∨(recF s.To).Code≠0)/\
 ¬((s.Greeted=false/\s.Mailing=true)∨(s.Mailing=false/\(s.From≠ []∨s.To≠ []))∨(s.Chunked=true/\s.To=[]))/\
 ¬(s.Size < (s.Data.length:Int)∨(s.Lost < 0∨1099511627776 < s.Lost)∨(s.Count < 0∨1000000 < s.Count))/\
 ¬((s.Data≠ []∨0 < s.Lost)/\s.Chunked=false/\s.Phase≠1)/\
 (
  s.Phase=0/\s.Buffer.length<=4001/\WNa s.Buffer=false/\s.Dots=0/\s.Left=0/\s.Last=false/\s.Ignore=false∨
  s.Phase=1/\s.To≠ []/\s.Chunked=false/\s.Buffer=[]/\(0<=s.Dots/\s.Dots<=4)/\s.Left=0/\s.Last=false/\s.Ignore=false∨
  s.Phase=2/\s.Ignore=s.To.isEmpty/\s.Ignore= !s.Chunked/\s.Buffer=[]/\s.Dots=0/\(1<=s.Left/\s.Left<=1000000)∨
  s.Phase=3/\s.Mailing=false/\s.Buffer=[]/\s.Dots=0/\s.Left=0/\s.Last=false/\s.Ignore=false)):=by
 unfold okB;have eb:decide ((s.Buffer.length:Int) < 4002)=decide (s.Buffer.length<=4001):=by rw[jAo];simp only[decide_eq_true_eq];omega
 have ed:decide ((0:Int) < (s.Data.length:Int))= !s.Data.isEmpty:=jyb _;rw[eb,ed];by_cases p0:s.Phase=0
 .simp[p0,jDi,bne]
  grind
 by_cases p1:s.Phase=1
 .simp[p1,jDi,bne]
  grind
 by_cases p2:s.Phase=2
 .simp[p2,jDi,bne]
  grind
 by_cases p3:s.Phase=3
 .simp[p3,jDi,bne]
  grind
 simp[p0,p1,p2,p3]
theorem vs_of_ok{s:zsa}(h:okB s=true):VS s:=by
 obtain ⟨a,b,c,d,e⟩:=(vZb s).1 h;have hl:0<=s.Lost:=by omega
 refine ⟨?_,by omega,Decidable.byContradiction fun x=>a (.inr (.inr x)),fun hm=>?_,fun hm=>?_,fun hc ht=>b (.inr (.inr ⟨hc,ht⟩)),by omega,by omega,by omega,fun hc hp=>?_,fun hp=>?_,fun hp=>?_,fun hp=>?_,fun hp=>?_,by omega⟩
 .by_cases hf:s.From=[]
  .exact .inl hf
  cases ha:qja s.From with
  | true=>exact .inr rfl
  | false=>exact absurd (.inl ⟨hf,ha⟩) a
 .cases hg:s.Greeted with
  | true=>rfl
  | false=>exact absurd (.inl ⟨hg,hm⟩) b
 .constructor
  .by_cases hf:s.From=[]
   .exact hf
   exact absurd (.inr (.inl ⟨hm,.inl hf⟩)) b
  by_cases hf:s.To=[]
  .exact hf
  exact absurd (.inr (.inl ⟨hm,.inr hf⟩)) b
 .constructor
  .by_cases hf:s.Data=[]
   .exact hf
   exact absurd ⟨.inl hf,hc,hp⟩ d
  by_cases hf:0 < s.Lost
  .exact absurd ⟨.inr hf,hc,hp⟩ d
  omega
 .rcases e with e | e | e | e
  .exact e.2
  .omega
  .omega
  omega
 .rcases e with e | e | e | e
  .omega
  .exact e.2
  .omega
  omega
 .rcases e with e | e | e | e
  .omega
  .omega
  .exact e.2
  omega
 rcases e with e | e | e | e
 .omega
 .omega
 .omega
 exact e.2
theorem jAb{s:zsa}(h:VS s):okB s=true:=by
 refine (vZb s).2 ⟨?_,?_,?_,?_,?_⟩
 .rintro (⟨x,y⟩ | x | x)
  .rcases h.frm with z | z
   .exact x z
   rw[y]at z;cases z
  .have:=h.len;omega
  exact x h.tos
 .rintro (⟨x,y⟩ | ⟨x,y⟩ | ⟨x,y⟩)
  .rw[h.greet y]at x;cases x
  .obtain ⟨z1,z2⟩:=h.quiet x;exact y.elim (fun f=>f z1) (fun f=>f z2)
  exact h.chunk x y
 .have h1:=h.data;have h2:=h.lost;have h3:=h.count;omega
 .rintro ⟨x,y,z⟩;obtain ⟨q1,q2⟩:=h.dat y z;rcases x with x | x
  .exact x q1
  omega
 rcases h.ph with p | p | p | p
 .exact .inl ⟨p,h.p0 p⟩
 .exact .inr (.inl ⟨p,h.p1 p⟩)
 .exact .inr (.inr (.inl ⟨p,h.p2 p⟩))
 exact .inr (.inr (.inr ⟨p,h.p3 p⟩))
theorem JIa:∀(n:Nat) (l:List zba),(∀r∈yUa n l,∃q∈l,q.Address=r.Address)/\((yUa n l).map (·.Address)).Nodup
 | 0,l=>by simp[yUa]
 | n+1,[]=>by simp[yUa]
 | n+1,r::t=>by
  obtain ⟨h1,h2⟩:=JIa n (t.filter fun x=> !kTa r.Address x);unfold yUa;refine ⟨fun x hx=>?_,?_⟩
  .rcases jBh.1 hx with rfl | hx
   .exact ⟨r,by simp,rfl⟩
   obtain ⟨q,hq,e⟩:=h1 x hx;exact ⟨q,by simp[(jDe.1 hq).1],e⟩
  rw[jCh,List.nodup_cons];refine ⟨fun hm=>?_,h2⟩;obtain ⟨x,hx,e⟩:=jCd.1 hm;obtain ⟨q,hq,e2⟩:=h1 x hx;have:=(jDe.1 hq).2;unfold kTa at this;simp at this;exact this (e2.trans e)
theorem ZOb{l:List zba}(h:∀r∈l,qja r.Address=true/\qBa r.Notify=true):(recF (jIa l)).Code=0:=by
 rw[recF_of (Yba h).2 (JIa l.length l).2]
theorem JJa(x:UInt8)(l:List UInt8):WNa (x::l)=([13,10].isPrefixOf (x::l) || WNa l):=by
 have hge:=Lib.index_ge l [13,10];unfold WNa;rw[Lib.index];cases hp: [13,10].isPrefixOf (x::l) with
 | true=>rfl
 | false=>
  simp only[jAr,if_false,jDs];by_cases hi:Lib.index l [13,10]= -1
  .rw[hi];rfl
  rw[if_neg (by simpa using hi),decide_eq_true (by omega),decide_eq_true hi]
theorem v0b(c:UInt8):∀b:List UInt8,WNa (b++ [c])=(WNa b || [13,10].isSuffixOf (b++ [c]))
 | []=>by
  have h1:([13,10]:List UInt8).isSuffixOf ([]++ [c])=false:=by
   rw[jCo];intro h;have:=(jBk.1 h).length_le;simp at this
  rw[h1,jBm,JJa];have h2:([13,10]:List UInt8).isPrefixOf [c]=false:=by simp[List.isPrefixOf]
  rw[h2];rfl
 | x::b=>by
  have ih:=v0b c b;rw[jBu,JJa,JJa,ih];cases b with
  | nil=>
   have e1:([13,10]:List UInt8).isPrefixOf (x::([]++ [c]))=([13,10]:List UInt8).isSuffixOf (x::([]++ [c])):=by
    rw[show x::([]++ [c])=[x]++ [c] from rfl,qfb];have a1:((13:UInt8)==x)=(x==13):=by rw[jAo,beq_iff_eq,beq_iff_eq];exact eq_comm
    have a2:((10:UInt8)==c)=(c==10):=by rw[jAo,beq_iff_eq,beq_iff_eq];exact eq_comm
    show ((13==x) && ((10==c) && true))=(true && ((x==13) && (c==10)));rw[a1,a2];simp
   have e2:([13,10]:List UInt8).isSuffixOf ([]++ [c])=false:=by
    rw[jCo];intro h;have:=(jBk.1 h).length_le;simp at this
   have e3:([13,10]:List UInt8).isPrefixOf [x]=false:=by simp[List.isPrefixOf]
   rw[e1,e2,e3];cases ([13,10]:List UInt8).isSuffixOf (x::([]++ [c])) <;> rfl
  | cons y b=>
   have e1:([13,10]:List UInt8).isPrefixOf (x::(y::b++ [c]))=([13,10]:List UInt8).isPrefixOf (x::y::b):=by simp[List.isPrefixOf]
   have e2:([13,10]:List UInt8).isSuffixOf (x::(y::b++ [c]))=([13,10]:List UInt8).isSuffixOf (y::b++ [c]):=by
    rw[show x::(y::b++ [c])=(x::y::b)++ [c] from rfl,qfb,qfb]
    congr 1
    .simp
    congr 2
    simp
   rw[e1,e2,Bool.or_assoc]
def P0(s:zsa):Prop:=s.Buffer.length<=4001/\WNa s.Buffer=false/\s.Dots=0/\s.Left=0/\s.Last=false/\s.Ignore=false
theorem Vgb{x:Ses}(hm:0<=x.Server.Many)(hs:0<=x.Server.Size)(hc:0<=x.Server.Count/\x.Server.Count<=1000000)(hp:x.Server.Phase=0)(h0:P0 x.Server):VS (abS x).Server where
 frm:=.inl rfl
 len:=hm
 tos:=rfl
 greet:=fun h=>by cases h
 quiet:=fun _=>⟨rfl,rfl⟩
 chunk:=fun h=>by cases h
 data:=hs
 lost:=⟨by show (0:Int)<=0;omega,by show (0:Int)<=_;omega⟩
 count:=hc
 dat:=fun _ _=>⟨rfl,rfl⟩
 p0:=fun _=>h0
 p1:=fun h=>absurd (hp.symm.trans h) (by decide)
 p2:=fun h=>absurd (hp.symm.trans h) (by decide)
 p3:=fun h=>absurd (hp.symm.trans h) (by decide)
 ph:=.inl hp
theorem Vhb{x:Ses}(hm:0<=x.Server.Many)(hs:0<=x.Server.Size)(hc:0<=x.Server.Count/\x.Server.Count<=1000000)(hp:x.Server.Phase=0)(h0:P0 x.Server):VS (Kva x).Server:=by
 unfold Kva;split
 .exact Vgb (x:=sayS x 552 [job]) hm hs hc hp h0
 split
 .exact Vgb (x:=sayS x 554 [jpb]) hm hs hc hp h0
 rename_i hr;have:x.Server.Count≠1000000:=fun e=>hr (.inr e)
 exact Vgb (x:=sayS ⟨{x.Server with Count:=x.Server.Count+1},_,_⟩ 250 [idS x.Server]) hm hs ⟨by show 0<=x.Server.Count+1;omega,by show x.Server.Count+1<=_;omega⟩ hp h0
theorem Vib{s:zsa}(hb:s.Buffer=[])(hd:s.Dots=0)(hl:s.Left=0)(h1:s.Last=false)(h2:s.Ignore=false):P0 s:=by
 refine ⟨by rw[hb];simp,by rw[hb];rfl,hd,hl,h1,h2⟩
theorem jBb{y:zsa}(h:VS y)(hm:0<=y.Many)(hs:0<=y.Size)(hp:y.Phase=2)(r:List zra)(m:List zua):VS (yga ⟨{y with Left:=0},r,m⟩).Server:=by
 obtain ⟨q1,q2,q3,q4,q5⟩:=h.p2 hp;have key:VS {y with Left:=0,Phase:=0,Last:=false,Ignore:=false}:=by
  obtain ⟨a1,a2,a3,a4,a5,a6,a7,a8,a9,a10,a11,a12,a13,a14,a15⟩:=h;exact ⟨a1,a2,a3,a4,a5,a6,a7,a8,a9,fun hc _=>a10 hc (by rw[hp];decide),fun _=>Vib q3 q4 rfl rfl rfl,fun e=>absurd (show (0:Int)=1 from e) (by decide),fun e=>absurd (show (0:Int)=2 from e) (by decide),fun e=>absurd (show (0:Int)=3 from e) (by decide),.inl rfl⟩
 unfold yga;dsimp only;cases y.Ignore with
 | true=>exact key
 | false=>
  cases y.Last with
  | true=>exact Vhb (x:=⟨{y with Left:=0,Phase:=0,Last:=false,Ignore:=false},r,m⟩) hm hs h.count rfl (Vib q3 q4 rfl rfl rfl)
  | false=>exact key
theorem exec_vs{x:Ses}(h:VS x.Server)(hm:1<=x.Server.Many)(hs:1<=x.Server.Size)(hp:x.Server.Phase=0)(hb:x.Server.Buffer=[])(hrec:∀r∈x.Server.To,qja r.Address=true/\qBa r.Notify=true){c:zfa}(ok:wTa c):VS (yma x c).Server:=by
 have h0:P0 x.Server:=h.p0 hp;have hv:=ok.verb;have hsz:=ok.size;obtain ⟨b1,b2,hd,hl,hla,hig⟩:=h0;have ha:=Vgb (x:=x) (by omega) (by omega) h.count hp ⟨b1,b2,hd,hl,hla,hig⟩;have e1:∀{k:Int},x.Server.Phase=k->k=0:=fun e=>e.symm.trans hp
 unfold yma;by_cases h1:c.Verb=1
 .rw[if_pos h1];obtain ⟨a1,a2,a3,a4,a5,a6,a7,a8,a9,a10,a11,a12,a13,a14,a15⟩:=ha;exact ⟨a1,a2,a3,fun _=>rfl,a5,a6,a7,a8,a9,a10,a11,a12,a13,a14,a15⟩
 rw[if_neg h1];by_cases h2:c.Verb=2
 .rw[if_pos h2];cases hg: !x.Server.Greeted || x.Server.Mailing with
  | true=>exact h
  | false=>
   simp only[cond_false];split
   .exact h
   have hgr:x.Server.Greeted=true:=by
    cases hx:x.Server.Greeted with
    | true=>rfl
    | false=>rw[hx]at hg;cases hg
   obtain ⟨a1,a2,a3,a4,a5,a6,a7,a8,a9,a10,a11,a12,a13,a14,a15⟩:=h;refine ⟨?_,a2,a3,fun _=>hgr,fun e=>(by cases e),a6,a7,a8,a9,a10,a11,a12,a13,fun e=>absurd (e1 e) (by decide),a15⟩;by_cases hn:c.Address=[]
   .exact .inl hn
   exact .inr (ok.addr (.inr ⟨h2,hn⟩))
 rw[if_neg h2];by_cases h3:c.Verb=3
 .rw[if_pos h3];unfold WMa;cases hg: !x.Server.Mailing || x.Server.Chunked with
  | true=>exact h
  | false=>
   simp only[cond_false];split
   .exact h
   rename_i hmany;have hmail:x.Server.Mailing=true:=by
    cases hx:x.Server.Mailing with
    | true=>rfl
    | false=>rw[hx]at hg;cases hg
   have hch:x.Server.Chunked=false:=by
    cases hx:x.Server.Chunked with
    | false=>rfl
    | true=>rw[hx]at hg;simp at hg
   have hl2:∀r∈x.Server.To++ [(⟨c.Address,c.Notify⟩:zba)],qja r.Address=true/\qBa r.Notify=true:=by
    intro r hr;rcases jCc.1 hr with hr | hr
    .exact hrec r hr
    rw[jBi]at hr;subst hr;refine ⟨ok.addr (.inl h3),?_⟩;have:=ok.note;show qBa c.Notify=true;unfold qBa;rw[decide_eq_true this.1,decide_eq_true this.2];rfl
   obtain ⟨a1,a2,a3,a4,a5,a6,a7,a8,a9,a10,a11,a12,a13,a14,a15⟩:=h;exact ⟨a1,by show ((addR x c).length:Int)<=x.Server.Many;omega,ZOb hl2,a4,fun e=>absurd (hmail.symm.trans e) (by decide),fun e=>absurd (hch.symm.trans e) (by decide),a7,a8,a9,a10,a11,fun e=>absurd (e1 e) (by decide),fun e=>absurd (e1 e) (by decide),fun e=>absurd (e1 e) (by decide),a15⟩
 rw[if_neg h3];by_cases h4:c.Verb=4
 .rw[if_pos h4];cases hg:x.Server.To.isEmpty || x.Server.Chunked with
  | true=>exact h
  | false=>
   have hne:x.Server.To≠ []:=by
    intro e;rw[e]at hg;cases hg
   have hch:x.Server.Chunked=false:=by
    cases hx:x.Server.Chunked with
    | false=>rfl
    | true=>rw[hx]at hg;simp at hg
   obtain ⟨a1,a2,a3,a4,a5,a6,a7,a8,a9,a10,a11,a12,a13,a14,a15⟩:=h;exact ⟨a1,a2,a3,a4,a5,a6,a7,a8,a9,fun _ e=>absurd rfl e,fun e=>absurd (show (1:Int)=0 from e) (by decide),fun _=>⟨hne,hch,hb,⟨by show 0<=x.Server.Dots;omega,by show x.Server.Dots<=4;omega⟩,hl,hla,hig⟩,fun e=>absurd (show (1:Int)=2 from e) (by decide),fun e=>absurd (show (1:Int)=3 from e) (by decide),.inr (.inl rfl)⟩
 rw[if_neg h4];by_cases h5:c.Verb=5
 .rw[if_pos h5];have key:∀k:Int,1<=k->k<=1000000->VS {x.Server with Phase:=2,Left:=k,Last:=c.Last,Ignore:=x.Server.To.isEmpty,Chunked:= !x.Server.To.isEmpty}:=by
   intro k hk1 hk2;obtain ⟨a1,a2,a3,a4,a5,a6,a7,a8,a9,a10,a11,a12,a13,a14,a15⟩:=h;refine ⟨a1,a2,a3,a4,a5,fun e ht=>?_,a7,a8,a9,fun hc _=>?_,fun e=>absurd (show (2:Int)=0 from e) (by decide),fun e=>absurd (show (2:Int)=1 from e) (by decide),fun _=>⟨rfl,by show x.Server.To.isEmpty= !(!x.Server.To.isEmpty);simp,hb,hd,hk1,hk2⟩,fun e=>absurd (show (2:Int)=3 from e) (by decide),.inr (.inr (.inl rfl))⟩
   .have e:(!x.Server.To.isEmpty)=true:=e;have ht:x.Server.To=[]:=ht;rw[ht]at e;cases e
   have hc:(!x.Server.To.isEmpty)=false:=hc;have ht:x.Server.To=[]:=jDi.1 (by simpa using hc);refine a10 ?_ (by rw[hp];decide);cases hx:x.Server.Chunked with
   | false=>rfl
   | true=>exact absurd ht (a6 hx)
  by_cases hz:c.Size=0
  .rw[if_pos hz,hz];exact jBb (y:={x.Server with Phase:=2,Left:=1,Last:=c.Last,Ignore:=x.Server.To.isEmpty,Chunked:= !x.Server.To.isEmpty}) (key 1 (by omega) (by omega)) (by show 0<=x.Server.Many;omega) (by show 0<=x.Server.Size;omega) rfl _ _
  rw[if_neg hz];exact key c.Size (by omega) hsz.2
 rw[if_neg h5];by_cases h6:c.Verb=6
 .rw[if_pos h6];exact ha
 rw[if_neg h6];by_cases h8:c.Verb=8
 .rw[if_pos h8];obtain ⟨a1,a2,a3,a4,a5,a6,a7,a8,a9,a10,a11,a12,a13,a14,a15⟩:=ha;exact ⟨a1,a2,a3,a4,a5,a6,a7,a8,a9,fun _ _=>⟨rfl,rfl⟩,fun e=>absurd (show (3:Int)=0 from e) (by decide),fun e=>absurd (show (3:Int)=1 from e) (by decide),fun e=>absurd (show (3:Int)=2 from e) (by decide),fun _=>⟨rfl,rfl,hd,hl,hla,hig⟩,.inr (.inr (.inr rfl))⟩
 rw[if_neg h8];exact h
theorem buf_vs{x:Ses}(h:VS x.Server)(hp:x.Server.Phase=0){b:List UInt8}(hb:b.length<=4001)(hc:WNa b=false):VS (bufS x b).Server:=by
 have e1:∀{k:Int},x.Server.Phase=k->k=0:=fun e=>e.symm.trans hp
 obtain ⟨b1,b2,hd,hl,hla,hig⟩:=h.p0 hp;obtain ⟨a1,a2,a3,a4,a5,a6,a7,a8,a9,a10,a11,a12,a13,a14,a15⟩:=h;exact ⟨a1,a2,a3,a4,a5,a6,a7,a8,a9,a10,fun _=>⟨hb,hc,hd,hl,hla,hig⟩,fun e=>absurd (e1 e) (by decide),fun e=>absurd (e1 e) (by decide),fun e=>absurd (e1 e) (by decide),a15⟩
theorem line_vs{x:Ses}{n:Nat}(hsi:SI x n)(h:VS x.Server)(hp:x.Server.Phase=0)(c:UInt8):VS (JDa x c).Server:=by
 have hlen:(x.Server.Buffer++ [c]).length=x.Server.Buffer.length+1:=by simp
 have hb:=hsi.buf;have h0:P0 x.Server:=h.p0 hp;have hbuf:=buf_vs h hp (b:=[]) (by simp) rfl;unfold JDa;split
 .generalize hR:ZPa ((x.Server.Buffer++ [c]).take ((x.Server.Buffer++ [c]).length - 2))=r;dsimp only;split
  .exact hbuf
  split
  .rename_i hz;exact exec_vs (x:=bufS x []) hbuf hsi.many.1 hsi.size.1 hp rfl hsi.tos.2 (by rw[<-hR]at hz ⊢;exact JGa hz)
  exact hbuf
 rename_i hs;split
 .have ha:=Vgb (x:=x) (by have:=hsi.many;omega) (by have:=hsi.size;omega) h.count hp h0;obtain ⟨b1,b2,hd,hl,hla,hig⟩:=h0;obtain ⟨a1,a2,a3,a4,a5,a6,a7,a8,a9,a10,a11,a12,a13,a14,a15⟩:=ha;exact ⟨a1,a2,a3,a4,a5,a6,a7,a8,a9,fun _ _=>⟨rfl,rfl⟩,fun e=>absurd (show (3:Int)=0 from e) (by decide),fun e=>absurd (show (3:Int)=1 from e) (by decide),fun e=>absurd (show (3:Int)=2 from e) (by decide),fun _=>⟨rfl,rfl,hd,hl,hla,hig⟩,.inr (.inr (.inr rfl))⟩
 rename_i h4;refine buf_vs h hp (by omega) ?_;rw[v0b,(h.p0 hp).2.1,jDs];exact jCo.2 hs
theorem qib{x:Ses}(h:VS x.Server)(hs:1<=x.Server.Size)(hp:x.Server.Phase=1∨x.Server.Chunked=true)(c:UInt8):VS (z2a x c).Server:=by
 unfold z2a;obtain ⟨a1,a2,a3,a4,a5,a6,a7,a8,a9,a10,a11,a12,a13,a14,a15⟩:=h;have no:x.Server.Chunked=false->x.Server.Phase≠1->False:=fun e1 e2=>hp.elim e2 fun e=>by rw[e]at e1;cases e1
 split
 .rename_i hlt;exact ⟨a1,a2,a3,a4,a5,a6,by show ((x.Server.Data++ [c]).length:Int)<=_;simp;omega,a8,a9,fun e1 e2=>(no e1 e2).elim,a11,a12,a13,a14,a15⟩
 exact ⟨a1,a2,a3,a4,a5,a6,a7,⟨by show 0<=min _ _;omega,by show min _ _<=_;omega⟩,a9,fun e1 e2=>(no e1 e2).elim,a11,a12,a13,a14,a15⟩
theorem qjb{x:Ses}(h:VS x.Server)(hp:x.Server.Phase=1){d:Int}(hd:0<=d/\d<=4):VS (ZNb x d).Server:=by
 have e1:∀{k:Int},x.Server.Phase=k->k=1:=fun e=>e.symm.trans hp
 obtain ⟨a1,a2,a3,a4,a5,a6,a7,a8,a9,a10,a11,a12,a13,a14,a15⟩:=h;obtain ⟨q1,q2,q3,q4,q5⟩:=a12 hp;exact ⟨a1,a2,a3,a4,a5,a6,a7,a8,a9,a10,fun e=>absurd (e1 e) (by decide),fun _=>⟨q1,q2,q3,hd,q5⟩,fun e=>absurd (e1 e) (by decide),fun e=>absurd (e1 e) (by decide),a15⟩
theorem Vjb(x:Ses)(c:UInt8):(z2a x c).Server.Size=x.Server.Size/\(z2a x c).Server.Chunked=x.Server.Chunked:=by unfold z2a;split <;> exact ⟨rfl,rfl⟩
theorem data_vs{x:Ses}{n:Nat}(hsi:SI x n)(h:VS x.Server)(hp:x.Server.Phase=1)(c:UInt8):VS (Wba x c).Server:=by
 have hs:=hsi.size;have hm:=hsi.many;unfold Wba;split
 .exact qjb h hp (by omega)
 split
 .exact qjb h hp (by omega)
 split
 .obtain ⟨q1,q2,q3,q4,q5,q6,q7⟩:=h.p1 hp;exact Vhb (x:=⟨{x.Server with Phase:=0,Dots:=0},x.replies,x.mails⟩) (by show 0<=x.Server.Many;omega) (by show 0<=x.Server.Size;omega) h.count rfl (Vib q3 rfl q5 q6 q7)
 have hd:∀(p q:Prop) [Decidable p] [Decidable q],0<=(if p then (4:Int) else if q then 0 else 3)/\(if p then (4:Int) else if q then 0 else 3)<=4:=by
  intro p q _ _;split
  .omega
  split <;> omega
 split
 .have h1:=qib h hs.1 (.inl hp) 13;have hp1:(z2a x 13).Server.Phase=1:=by rw[(vma x 13).2];exact hp
  exact qjb (qib h1 (by rw[(Vjb x 13).1];exact hs.1) (.inl hp1) c) (by rw[(vma _ _).2];exact hp1) (hd _ _)
 exact qjb (qib h hs.1 (.inl hp) c) (by rw[(vma _ _).2];exact hp) (hd _ _)
theorem byte_vs{x:Ses}{n:Nat}(hsi:SI x n)(h:VS x.Server)(c:UInt8):VS (v4a x c).Server:=by
 unfold v4a;split
 .rename_i hp;exact line_vs hsi h hp c
 split
 .rename_i hp;exact data_vs hsi h hp c
 split
 .rename_i hp;have hy:VS (bif x.Server.Ignore then x else z2a x c).Server/\(bif x.Server.Ignore then x else z2a x c).Server.Phase=2/\SI (bif x.Server.Ignore then x else z2a x c) n:=by
   cases hi:x.Server.Ignore with
   | true=>exact ⟨h,hp,hsi⟩
   | false=>
    have hc:x.Server.Chunked=true:=by
     have:=(h.p2 hp).2.1;rw[hi]at this;cases hx:x.Server.Chunked with
     | true=>rfl
     | false=>rw[hx]at this;cases this
    exact ⟨qib h hsi.size.1 (.inr hc) c,by show (z2a x c).Server.Phase=2;rw[(vma x c).2];exact hp,Kca hsi c⟩
  generalize (bif x.Server.Ignore then x else z2a x c)=y at hy;obtain ⟨hy,hyp,hysi⟩:=hy;have hm:=hysi.many;have hs:=hysi.size;dsimp only;split
  .rename_i hz;rw[hz];exact jBb hy (by omega) (by omega) hyp _ _
  rename_i hz;have e1:∀{k:Int},y.Server.Phase=k->k=2:=fun e=>e.symm.trans hyp
  obtain ⟨a1,a2,a3,a4,a5,a6,a7,a8,a9,a10,a11,a12,a13,a14,a15⟩:=hy;obtain ⟨q1,q2,q3,q4,q5,q6⟩:=a13 hyp;exact ⟨a1,a2,a3,a4,a5,a6,a7,a8,a9,a10,fun e=>absurd (e1 e) (by decide),fun e=>absurd (e1 e) (by decide),fun _=>⟨q1,q2,q3,q4,by show 1<=y.Server.Left - 1;omega,by show y.Server.Left - 1<=_;omega⟩,fun e=>absurd (e1 e) (by decide),a15⟩
 exact h
theorem Vkb:∀(b:List UInt8) (x:Ses) (n:Nat),SI x n->VS x.Server->VS (zRa x b).Server
 | [],x,n,_,h=>h
 | c::b,x,n,hs,h=>Vkb b (v4a x c) (n+1) (jvb hs c) (byte_vs hs h c)
def spre(R:List zra)(M:List zua)(x:Ses):Ses:=⟨x.Server,R++x.replies,M++x.mails⟩
theorem vna(R:List zra)(M:List zua)(x:Ses)(c:Int)(l:List Str):sayS (spre R M x) c l=spre R M (sayS x c l):=by
 unfold sayS spre;simp
theorem jCb(R:List zra)(M:List zua)(x:Ses):Kva (spre R M x)=spre R M (Kva x):=by
 unfold Kva;rw[show (spre R M x).Server=x.Server from rfl];split
 .rw[vna];rfl
 split
 .rw[vna];rfl
 rw[show (⟨{x.Server with Count:=x.Server.Count+1},(spre R M x).replies,(spre R M x).mails++ [⟨⟨x.Server.From,x.Server.To,idS x.Server⟩,(jPa x.Server.Data).1⟩]⟩:Ses)=spre R M ⟨{x.Server with Count:=x.Server.Count+1},x.replies,x.mails++ [⟨⟨x.Server.From,x.Server.To,idS x.Server⟩,(jPa x.Server.Data).1⟩]⟩ by unfold spre;simp,vna];rfl
theorem v1b(R:List zra)(M:List zua)(x:Ses):yga (spre R M x)=spre R M (yga x):=by
 unfold yga;rw[show (spre R M x).Server=x.Server from rfl];have e:(⟨{x.Server with Phase:=0,Last:=false,Ignore:=false},(spre R M x).replies,(spre R M x).mails⟩:Ses)=spre R M ⟨{x.Server with Phase:=0,Last:=false,Ignore:=false},x.replies,x.mails⟩:=rfl;rw[e];cases x.Server.Ignore with
 | true=>exact vna _ _ _ _ _
 | false=>
  cases x.Server.Last with
  | true=>exact jCb _ _ _
  | false=>exact vna _ _ _ _ _
theorem pre_rcpt(R:List zra)(M:List zua)(x:Ses)(c:zfa):WMa (spre R M x) c=spre R M (WMa x c):=by
 unfold WMa;rw[show (spre R M x).Server=x.Server from rfl,show addR (spre R M x) c=addR x c from rfl];cases !x.Server.Mailing || x.Server.Chunked with
 | true=>exact vna _ _ _ _ _
 | false=>
  simp only[cond_false];split
  .exact vna _ _ _ _ _
  exact vna R M ⟨{x.Server with To:=addR x c},x.replies,x.mails⟩ _ _
theorem pre_exec(R:List zra)(M:List zua)(x:Ses)(c:zfa):yma (spre R M x) c=spre R M (yma x c):=by
 unfold yma;rw[show (spre R M x).Server=x.Server from rfl];split
 .exact vna R M ⟨{(abS x).Server with Greeted:=true},x.replies,x.mails⟩ _ _
 split
 .cases !x.Server.Greeted || x.Server.Mailing with
  | true=>exact vna _ _ _ _ _
  | false=>
   simp only[cond_false];split
   .exact vna _ _ _ _ _
   exact vna R M ⟨{x.Server with Mailing:=true,From:=c.Address},x.replies,x.mails⟩ _ _
 split
 .exact pre_rcpt _ _ _ _
 split
 .cases x.Server.To.isEmpty || x.Server.Chunked with
  | true=>exact vna _ _ _ _ _
  | false=>exact vna R M ⟨{x.Server with Phase:=1},x.replies,x.mails⟩ _ _
 split
 .split
  .exact v1b R M ⟨{x.Server with Phase:=2,Left:=c.Size,Last:=c.Last,Ignore:=x.Server.To.isEmpty,Chunked:= !x.Server.To.isEmpty},x.replies,x.mails⟩
  rfl
 split
 .exact vna R M (abS x) _ _
 split
 .exact vna R M ⟨{(abS x).Server with Phase:=3,Buffer:=[]},x.replies,x.mails⟩ _ _
 exact vna _ _ _ _ _
theorem YKa(R:List zra)(M:List zua)(x:Ses)(c:UInt8):z2a (spre R M x) c=spre R M (z2a x c):=by
 unfold z2a;rw[show (spre R M x).Server=x.Server from rfl];split <;> rfl
theorem pre_byte(R:List zra)(M:List zua)(x:Ses)(c:UInt8):v4a (spre R M x) c=spre R M (v4a x c):=by
 unfold v4a;rw[show (spre R M x).Server=x.Server from rfl];split
 .unfold JDa;rw[show (spre R M x).Server=x.Server from rfl];split
  .dsimp only;split
   .exact vna R M (bufS x []) _ _
   split
   .exact pre_exec R M (bufS x []) _
   exact vna R M (bufS x []) _ _
  split
  .exact vna R M ⟨{(abS x).Server with Phase:=3,Buffer:=[]},x.replies,x.mails⟩ _ _
  rfl
 split
 .unfold Wba;rw[show (spre R M x).Server=x.Server from rfl];split
  .rfl
  split
  .rfl
  split
  .exact jCb R M ⟨{x.Server with Phase:=0,Dots:=0},x.replies,x.mails⟩
  split
  .rw[YKa,YKa];rfl
  rw[YKa];rfl
 split
 .have e:(bif x.Server.Ignore then spre R M x else z2a (spre R M x) c)=spre R M (bif x.Server.Ignore then x else z2a x c):=by
   cases x.Server.Ignore with
   | true=>rfl
   | false=>exact YKa _ _ _ _
  rw[e];generalize (bif x.Server.Ignore then x else z2a x c)=y;dsimp only;rw[show (spre R M y).Server=y.Server from rfl];split
  .exact v1b R M ⟨{y.Server with Left:=y.Server.Left - 1},y.replies,y.mails⟩
  rfl
 rfl
theorem jDb(R:List zra)(M:List zua):∀(b:List UInt8) (x:Ses),zRa (spre R M x) b=spre R M (zRa x b)
 | [],x=>rfl
 | c::b,x=>by
  show zRa (v4a (spre R M x) c) b=_;rw[pre_byte];exact jDb R M b (v4a x c)
theorem JKa(a b:List UInt8)(s:zsa):zRa ⟨s,[],[]⟩ (a++b)=spre (zRa ⟨s,[],[]⟩ a).replies (zRa ⟨s,[],[]⟩ a).mails (zRa ⟨(zRa ⟨s,[],[]⟩ a).Server,[],[]⟩ b):=by
 rw[<-jDb];unfold zRa;rw[List.foldl_append];unfold spre;simp
def cf(x:Ses):Str × Int × Int:=(x.Server.Name,x.Server.Size,x.Server.Many)
theorem qkb(x:Ses)(c:UInt8):cf (z2a x c)=cf x:=by unfold z2a;split <;> rfl
theorem Vlb(x:Ses):cf (Kva x)=cf x:=by
 unfold Kva;split
 .rfl
 split <;> rfl
theorem jEb(x:Ses):cf (yga x)=cf x:=by
 unfold yga;cases x.Server.Ignore with
 | true=>rfl
 | false=>
  cases x.Server.Last with
  | true=>exact Vlb _
  | false=>rfl
theorem cf_exec(x:Ses)(c:zfa):cf (yma x c)=cf x:=by
 unfold yma;split
 .rfl
 split
 .cases !x.Server.Greeted || x.Server.Mailing with
  | true=>rfl
  | false=>
   simp only[cond_false];split <;> rfl
 split
 .unfold WMa;cases !x.Server.Mailing || x.Server.Chunked with
  | true=>rfl
  | false=>
   simp only[cond_false];split <;> rfl
 split
 .cases x.Server.To.isEmpty || x.Server.Chunked <;> rfl
 split
 .split
  .exact jEb _
  rfl
 split
 .rfl
 split <;> rfl
theorem cf_byte(x:Ses)(c:UInt8):cf (v4a x c)=cf x:=by
 unfold v4a;split
 .unfold JDa;split
  .dsimp only;split
   .rfl
   split
   .exact cf_exec (bufS x []) _
   rfl
  split <;> rfl
 split
 .unfold Wba;split
  .rfl
  split
  .rfl
  split
  .exact Vlb _
  split
  .exact (qkb _ c).trans (qkb x 13)
  exact qkb x c
 split
 .have e:cf (bif x.Server.Ignore then x else z2a x c)=cf x:=by
   cases x.Server.Ignore with
   | true=>rfl
   | false=>exact qkb x c
  rw[<-e];generalize (bif x.Server.Ignore then x else z2a x c)=y;dsimp only;split
  .exact jEb _
  rfl
 rfl
theorem Vmb:∀(b:List UInt8) (x:Ses),cf (zRa x b)=cf x
 | [],x=>rfl
 | c::b,x=>(Vmb b (v4a x c)).trans (cf_byte x c)
theorem yqb{x:Ses}{n:Nat}(h:SI x n)(v:VS x.Server):jxb x.Server:=by
 have hz:=h.size;have hd:=h.data;have hb:=h.buf;have hn:=h.name;refine ⟨?_,z0b h.tos.2 (by have:=h.tos.1;omega),by omega,by omega,by omega⟩;rcases v.frm with e | e
 .rw[e];simp
 have:=Z8a e;omega
end Go.Proofs.YtjjgjalfelnclaaGreatDoor
