/- Part 5 of the proof of the law SpoolReadMatchesSpec: what it needs. -/
import Derived.Test.YtdblnmhmmfahkaaGreatKSpoolReadMatchesSpec4
import Derived.Shelf.Small.Utf8
import Derived.Shelf.Small.Strs
import Derived.Shelf.Strings.Search1
import Derived.Shelf.Strings.Search2
import Derived.Shelf.Strings.Search3
import Derived.Shelf.Strings.Cut
import Derived.Shelf.LaysM
import Derived.Shelf.Strings.Shaped
import Derived.Shelf.Strings.Prefix
import Derived.Shelf.Strings.Runes
import Derived.Shelf.Strings.IndexAny
import Derived.Shelf.Strings.AsciiSet
import Derived.Shelf.Strings.IndexAnyAll
import Derived.Shelf.Bytes.SlSearch0
import Derived.Shelf.Bytes.SlSmallAll
import Derived.Shelf.Bytes.SlEqualAll
import Derived.Shelf.Bytes.Small
import Derived.Test.YtdblnmhmmfahkaaGreatProg
set_option linter.unusedVariables false
set_option linter.unusedSimpArgs false
set_option maxRecDepth 100000
set_option maxHeartbeats 40000000
namespace Go.Proofs.YtdblnmhmmfahkaaGreat
open Go.RowKit Go.Proofs.Tryz
def apdF(log:List UInt8)(r:zha):List UInt8 × zqa:=if 200000 < log.length then ([],⟨1, -1⟩) else if (rcdF r).Code !=0 then ([],rcdF r) else if 200000 < log.length+(spE r).length then ([],⟨1, -9⟩) else (log++spE r,⟨0,0⟩)
theorem Kna(log:List UInt8)(r:zha)(h:kza r):q8a log r=some (apdF log r):=by
 unfold q8a apdF;by_cases hb:200000 < log.length
 .rw[decide_eq_true (show (200000:Int) < (log.length:Int) by omega),if_pos hb];rfl
 rw[decide_eq_false (show ¬(200000:Int) < (log.length:Int) by omega),if_neg hb];simp only[cond_false];rw[jIa r h];simp only[Option.bind_some,z6a];cases (rcdF r).Code !=0 with
 | true=>rfl
 | false=>
  simp only[cond_false,Bool.false_eq_true,if_false];rw[jha r h];simp only[Option.bind_some];have hl:=qjb h;have he:=Yfa r;rw[ycb _ _ (by omega)];simp only[Option.bind_some];rw[List.length_append];by_cases h2:200000 < log.length+(spE r).length
  .rw[decide_eq_true (show (200000:Int) < ((log.length+(spE r).length:Nat):Int) by omega),if_pos h2];rfl
  rw[decide_eq_false (show ¬(200000:Int) < ((log.length+(spE r).length:Nat):Int) by omega),if_neg h2];rfl
def repS(r:zha)(s:zza × List zla):zqa × zza × List zla:=
 if r.Kind==1 then ((addP s.1 r.Mail r.Now).2.2,(addP s.1 r.Mail r.Now).1,s.2) else if (Kha s.1 r.Attempt).2.Code !=0 then ((Kha s.1 r.Attempt).2,(Kha s.1 r.Attempt).1,s.2) else
 ((V8a (Kha s.1 r.Attempt).1 r.Attempt r.Results r.Now).2.2,(V8a (Kha s.1 r.Attempt).1 r.Attempt r.Results r.Now).1,s.2++(V8a (Kha s.1 r.Attempt).1 r.Attempt r.Results r.Now).2.1)
def repR:Nat->List zha->zza × List zla->(zza × List zla) ⊕ zqa
 | _,[],s=>.inl s
 | i,r::l,s=>if (repS r s).1.Code !=0 then .inr ⟨(repS r s).1.Code,i⟩ else repR (i+1) l (repS r s).2
theorem yyb(i:Nat)(r:zha)(l:List zha)(s:zza × List zla):repR i (r::l) s=if (repS r s).1.Code !=0 then .inr ⟨(repS r s).1.Code,i⟩ else repR (i+1) l (repS r s).2:=rfl
def rcdQ(i:Nat)(r:zha):Option zqa:=if (rcdF r).Code !=0 then some ⟨(rcdF r).Code,i⟩ else none
def repF(l:List zha):zza × List zla × zqa:=if 100 < l.length then (⟨[],0⟩,[],⟨2, -1⟩) else match kba rcdQ 0 l with
 | some f=>(⟨[],0⟩,[],f)
 | none=>match repR 0 l (⟨[],0⟩,[]) with
  | .inl s=>(s.1,s.2,⟨0,0⟩)
  | .inr f=>(⟨[],0⟩,[],f)
theorem Q6a:∀(l:List Int) (T:List zia),Kfa T->Kfa (l.foldl onK T)
 | [],T,h=>h
 | k::l,T,h=>by
  refine Q6a l _ ⟨by rw[qkb];exact h.1,fun w hwm=>?_⟩;unfold onK at hwm;split at hwm
  .rename_i v hv;rcases List.mem_or_eq_of_mem_set hwm with hwm | rfl
   .exact h.2 w hwm
   exact h.2 v (List.mem_of_getElem? hv)
  exact h.2 w hwm
theorem K2a(again:Bool)(id:Int):∀(l:List (Int × Int)) (s:List zla × List zia),Kfa s.2->Kfa (l.foldl (resS again id) s).2
 | [],s,h=>h
 | kv::l,s,h=>by
  refine K2a again id l _ ⟨?_,fun w hwm=>?_⟩
  .show (resK again s.2 kv).length<=_;rw[Wna];exact h.1
  have hwm:w∈resK again s.2 kv:=hwm;unfold resK at hwm;split at hwm
  .rename_i v hv;rcases List.mem_or_eq_of_mem_set hwm with hwm | rfl
   .exact h.2 w hwm
   exact h.2 v (List.mem_of_getElem? hv)
  exact h.2 w hwm
theorem koa:yAa ⟨[],0⟩:=fun e he=>by cases he
theorem jza(q:zza)(a:zva)(hw:yAa q):yAa (Kha q a).1:=by
 unfold Kha;split
 .exact koa
 split
 .exact koa
 split
 .exact koa
 show yAa ⟨Jna _ _ _,_⟩;unfold Jna;split
 .rename_i e he;intro y hy;rcases List.mem_or_eq_of_mem_set hy with hy | rfl
  .exact hw y hy
  exact Q6a _ _ (hw e (List.mem_of_getElem? he))
 exact hw
theorem VYa(q:zza)(a:zva)(rs:List Int)(now:Int)(hw:yAa q):yAa (V8a q a rs now).1/\(V8a q a rs now).2.1.length<=a.To.length:=by
 unfold V8a;split
 .exact ⟨koa,by simp⟩
 split
 .exact ⟨koa,by simp⟩
 rename_i h1 h2;obtain ⟨n,e,ha,he,_⟩:=zjb (q:=q) (a:=a) (on:=true) (by simpa using h2);split
 .exact ⟨koa,by simp⟩
 split
 .exact ⟨koa,by simp⟩
 split
 .exact ⟨koa,by simp⟩
 split
 .exact ⟨koa,by simp⟩
 rw[ha];simp only[Int.toNat_natCast,he,Option.getD_some];unfold endP;have hm:=hw e (List.mem_of_getElem? he);refine ⟨fun y hy=>?_,?_⟩
 .rcases List.mem_or_eq_of_mem_set (List.mem_filter.1 hy).1 with hy | rfl
  .exact hw y hy
  exact K2a _ _ _ _ hm
 have h3:=Yja (Kma e rs now) a.Entry (a.To.zip rs) ([],e.To);have h4:(a.To.zip rs).length<=a.To.length:=by rw[List.length_zip];omega
 show ((a.To.zip rs).foldl (resS (Kma e rs now) a.Entry) ([],e.To)).1.length<=_;simp only[List.length_nil]at h3;omega
theorem vSb(q:zza)(m:kca)(now:Int)(hq:jfa q)(hw:yAa q)(hm:vTa m):jfa (addP q m now).1/\yAa (addP q m now).1:=by
 unfold addP;split
 .exact ⟨kAa,koa⟩
 rename_i h0;split
 .exact ⟨kAa,koa⟩
 split
 .exact ⟨kAa,koa⟩
 split
 .exact ⟨kAa,koa⟩
 obtain ⟨ok,_⟩:=W6a (q:=q) (by simpa using h0);have hn:=ok.n;obtain ⟨t1,t2⟩:=jga hm;refine ⟨⟨by simp;omega,fun e he=>?_⟩,fun e he=>?_⟩
 .rcases List.mem_append.1 he with he | he
  .exact hq.2 e he
  rw[List.mem_singleton.1 he];exact ⟨hm,by simpa[newE]using t1⟩
 rcases List.mem_append.1 he with he | he
 .exact hw e he
 rw[List.mem_singleton.1 he];refine ⟨by simpa[newE]using t1,fun w hwm=>?_⟩;obtain ⟨r,hr,rfl⟩:=List.mem_map.1 hwm;exact t2 r hr
def InvR(n:Nat)(s:zza × List zla):Prop:=jfa s.1/\yAa s.1/\s.2.length<=60 * n
theorem rcd_to{r:zha}(h:(rcdF r).Code=0):r.Attempt.To.length<=60:=by
 rcases ysb h with ⟨_,ha,_⟩ | ⟨_,_,hd⟩
 .rw[ha];simp
 unfold vMb at hd;split at hd
 .simp at hd
 split at hd
 .simp at hd
 split at hd
 .simp at hd
 rename_i h3;simp at h3;omega
theorem repS_inv{n:Nat}{s:zza × List zla}{r:zha}(hi:InvR n s)(h:kza r)(hf:(rcdF r).Code=0):InvR (n+1) (repS r s).2:=by
 obtain ⟨h1,h2,h3⟩:=hi;have ht:=rcd_to hf;unfold repS;split
 .obtain ⟨a,b⟩:=vSb s.1 r.Mail r.Now h1 h2 h.mail;exact ⟨a,b,by show s.2.length<=_;omega⟩
 split
 .exact ⟨Qka _ _ h1,jza _ _ h2,by show s.2.length<=_;omega⟩
 obtain ⟨d1,d2⟩:=qnb (Kha s.1 r.Attempt).1 r.Attempt r.Results r.Now (Qka _ _ h1) (by omega);obtain ⟨e1,e2⟩:=VYa (Kha s.1 r.Attempt).1 r.Attempt r.Results r.Now (jza _ _ h2);exact ⟨d1,e1,by
  show (s.2++_).length<=_;rw[List.length_append];omega⟩
def repZ(x:(zza × List zla) ⊕ zqa):((List zla) × (List zca) × Int) ⊕ (zza × (List zla) × zqa):=match x with
 | .inl s=>.inl (s.2,s.1.Entries,s.1.Next)
 | .inr f=>.inr (⟨[],0⟩,[],f)
theorem yzb(l:List zha)(hl:l.length<=100)(hs:∀r∈l,kza r/\(rcdF r).Code=0):iter (q6a l) (0,([]:List zla),[],0)=some (repZ (repR 0 l (⟨[],0⟩,[]))):=by
 refine Vxa l (fun n (s:zza × List zla)=>((n:Int),s.2,s.1.Entries,s.1.Next)) (fun n r s=>repZ (repR n r s)) (fun n r s=>InvR n s) (fun s _=>?_) (fun p x r s hp hi=>?_) (⟨[],0⟩,[]) rfl ⟨kAa,koa,by simp⟩
 .unfold q6a;dsimp only;rw[zQa];rfl
 have hx:l[p.length]? =some x:=by rw[hp];simp
 have hlt:=zYa hx;obtain ⟨x1,x2⟩:=hs x (List.mem_of_getElem? hx);have hto:=rcd_to x2;obtain ⟨i1,i2,i3⟩:=hi;have hinv:=repS_inv (r:=x) (n:=p.length) ⟨i1,i2,i3⟩ x1 x2;have hb:q6a l ((p.length:Int),s.2,s.1.Entries,s.1.Next)=some (if (repS x s).1.Code !=0 then .out (.inr (⟨[],0⟩,[],⟨(repS x s).1.Code,p.length⟩)) else .cont (((p.length+1:Nat):Int),(repS x s).2.2,(repS x s).2.1.Entries,(repS x s).2.1.Next)):=by
  unfold q6a repS;dsimp only;rw[kfa hx,zwa hx];simp only[cond_true,Option.bind_some];rw[show (zza.mk s.1.Entries s.1.Next)=s.1 from rfl];cases hk:x.Kind==1 with
  | true=>
   simp only[cond_true,if_true];rw[kjb _ _ _ i1 x1.mail];simp only[Option.bind_some,z6a,zMa,sc _ (show p.length < 9223372036854775807 by omega)];cases (addP s.1 x.Mail x.Now).2.2.Code !=0 <;> rfl
  | false=>
   simp only[cond_false,Bool.false_eq_true,if_false];rw[zkb _ _ i1 i2 (by omega)];simp only[Option.bind_some,z6a,zMa];cases ht:(Kha s.1 x.Attempt).2.Code !=0 with
   | true=>simp only[Bool.not_true,cond_false,Option.bind_some,ht,cond_true,if_true]
   | false=>
    simp only[Bool.not_false,cond_true,Bool.false_eq_true,if_false];rw[zrb _ _ _ _ (Qka _ _ i1) (jza _ _ i2) (by omega) x1.res];simp only[Option.bind_some];have hd:=(VYa (Kha s.1 x.Attempt).1 x.Attempt x.Results x.Now (jza _ _ i2)).2;rw[qva (by omega)];simp only[Option.bind_some,sc _ (show p.length < 9223372036854775807 by omega)];cases (V8a (Kha s.1 x.Attempt).1 x.Attempt x.Results x.Now).2.2.Code !=0 <;> rfl
 rw[hb,yyb];cases hc:(repS x s).1.Code !=0 with
 | true=>exact .inl rfl
 | false=>exact .inr ⟨(repS x s).2,rfl,by simp,hinv⟩
theorem yAb(l:List zha)(hl:l.length<=100)(hs:∀r∈l,kza r):iter (vRa l) 0=some ((kba rcdQ 0 l).elim (Sum.inl ()) fun f=>Sum.inr ((⟨[],0⟩,[],f):zza × List zla × zqa)):=by
 refine z0a l rcdQ (Sum.inl ()) (fun f=>Sum.inr ((⟨[],0⟩,[],f):zza × List zla × zqa)) ?_ ?_
 .unfold vRa;rw[zQa];rfl
 intro i x hx;have hi:=zYa hx;unfold vRa;rw[kfa hx,zwa hx];simp only[cond_true,Option.bind_some];rw[jIa _ (hs x (List.mem_of_getElem? hx))];simp only[Option.bind_some,z6a,zMa,sc i (by omega)];unfold rcdQ;cases (rcdF x).Code !=0 <;> rfl
theorem yBb{l:List zha}(h:kba rcdQ 0 l=none):∀r∈l,(rcdF r).Code=0:=by
 intro r hr;rw[vka]at h;obtain ⟨i,hi⟩:=List.mem_iff_getElem?.1 hr;have:=h i r hi;unfold rcdQ at this;split at this
 .cases this
 rename_i hc;simpa using hc
theorem Yka(l:List zha)(hs:∀r∈l,kza r):wwa l=some (repF l):=by
 unfold wwa repF;by_cases hl:100 < l.length
 .rw[decide_eq_true (show (100:Int) < (l.length:Int) by omega),if_pos hl];rfl
 rw[decide_eq_false (show ¬(100:Int) < (l.length:Int) by omega),if_neg hl];simp only[cond_false];rw[yAb l (by omega) hs];cases hf:kba rcdQ 0 l with
 | some f=>rfl
 | none=>
  simp only[Option.elim_none,Option.bind_some,Sum.elim_inl];rw[yzb l (by omega) (fun r hr=>⟨hs r hr,yBb hf r hr⟩)];cases repR 0 l (⟨[],0⟩,[]) <;> rfl
def xM:kca:=⟨⟨[115,64,120],[⟨[97,64,121],1⟩],[55]⟩,⟨[],[]⟩⟩
def xAdd:zha:=⟨1,0,xM,⟨0,[],[]⟩,[]⟩
def xDone:zha:=⟨2,5,⟨⟨[],[],[]⟩,⟨[],[]⟩⟩,⟨0,[121],[0]⟩,[1]⟩
theorem xM_small:vTa xM:=⟨⟨by decide,by decide,by decide,fun r hr=>by simp[xM]at hr;subst hr;decide⟩,⟨by decide,fun f hf=>by simp[xM]at hf⟩,by decide⟩
theorem VHa:kza xAdd:=⟨xM_small,by decide,by decide,by decide⟩
theorem qob:kza xDone:=⟨Yca,by decide,by decide,by decide⟩
theorem vTb:kza zRec:=⟨Yca,by decide,by decide,by decide⟩
theorem xAdd_ok:zqb xAdd:=by
 refine ⟨?_,?_,?_,fun x hx=>?_,fun x hx=>by simp[xAdd]at hx,fun x hx=>by simp[xAdd]at hx⟩
 .show ok64 1;unfold ok64;omega
 .show ok64 0;unfold ok64;omega
 .show ok64 0;unfold ok64;omega
 simp[xAdd,xM]at hx;subst hx;show ok64 1;unfold ok64;omega
theorem qZb:rcdF xAdd=⟨0,0⟩:=by rfl
theorem Wpa:(spB xAdd).length=79:=by rfl
theorem x_app:apdF [] xAdd=(spE xAdd,⟨0,0⟩):=by
 have h:=Yfa xAdd;rw[Wpa]at h;unfold apdF;rw[qZb,if_neg (by simp),if_neg (by simp),if_neg (by simp;omega)];rfl
theorem accP_nil:accP []=none:=rfl
theorem x_read:yvb (spE xAdd)=([xAdd],((spE xAdd).length:Int),⟨0,0⟩):=by
 have h:=Yfa xAdd;rw[Wpa]at h;have h1:=accP_enc VHa xAdd_ok (by rw[qZb]) (by rw[Wpa];omega) [];rw[List.append_nil]at h1;unfold yvb;rw[if_neg (by omega),show (100:Nat)=99+1 from rfl,Kla h1,List.drop_length,Kka accP_nil];rfl
theorem x_rep:repF [xAdd,xDone]=(⟨[],1⟩,[⟨0,0,1⟩],⟨0,0⟩):=by rfl
theorem YIa:Z7a=some true:=by
 unfold Z7a;rw[yxb _ (by decide)];simp only[Option.bind_some];rw[show ([([97,64,121]:Str)]:List Str).map (fun s=>(⟨s,1⟩:zba))=[⟨[97,64,121],1⟩] from rfl];show ((q8a [] xAdd).bind fun v3=>(w6a v3.1).bind fun v5=>(wwa [xAdd,xDone]).bind fun v7=>(q8a [] zRec).bind fun v9=>_)=_;rw[Kna _ _ VHa,x_app];simp only[Option.bind_some];have h:=Yfa xAdd;rw[Wpa]at h;rw[Q4a _ (by omega),x_read,Yka _ (fun r hr=>by
  simp at hr;rcases hr with rfl | rfl
  .exact VHa
  exact qob),x_rep,Kna _ _ vTb]
 simp only[Option.bind_some,jca];rw[show apdF [] zRec=([],⟨4, -2⟩) from rfl,KLa _ (by decide),decide_eq_true (show (16:Int) < ((spE xAdd).length:Int) by omega)];simp;rfl
structure Fine (r:zha):Prop where
 sm:kza r
 ok:zqb r
 ff:(rcdF r).Code=0
theorem ktb:∀(k:Nat) (b:List UInt8),b.length<=1048576->(rdsN k b).1.length<=k/\∀r∈(rdsN k b).1,Fine r
 | 0,b,_=>⟨by simp[rdsN],fun r hr=>by cases hr⟩
 | k+1,b,hb=>by
  cases h:accP b with
  | none=>rw[Kka h];exact ⟨by simp,fun r hr=>by cases hr⟩
  | some rn=>
   obtain ⟨r,n⟩:=rn;rw[Kla h];obtain ⟨q1,q2,q3,_⟩:=Yga hb h;obtain ⟨i1,i2⟩:=ktb k (b.drop n) (by rw[List.length_drop];omega);refine ⟨by simp;omega,fun x hx=>?_⟩;rcases List.mem_cons.1 hx with rfl | hx
   .exact ⟨q1,q2,q3⟩
   exact i2 x hx
theorem Q7a(r:zha)(h:kza r):wRa r r=some true:=by
 unfold wRa;rw[W3a _ (jga h.mail).1 (j7a h.mail).1,Jsa _ h.to,Jsa _ h.res];simp
theorem Qla(l:List zha)(hl:l.length<=1048576)(h:∀r∈l,kza r):wia l l=some true:=by
 unfold wia;rw[show ((l.length:Int) !=(l.length:Int))=false by simp];simp only[cond_false];rw[z0a l (fun _ _=>(none:Option Bool)) (.inl ()) .inr,vka.2 (fun _ _ _=>rfl)]
 .rfl
 .unfold v4a;rw[zQa];rfl
 intro i x hx;have hi:=zYa hx;unfold v4a;rw[kfa hx,zwa hx];simp only[cond_true,Option.bind_some];rw[Q7a x (h x (List.mem_of_getElem? hx))];simp only[Option.bind_some,Bool.not_true,cond_false,sc i (by omega)];rfl
theorem yMa(a0:List UInt8)(o0:(okL (fun _=>True)) a0)(hk:(bkL (fun _=>1)) a0<=1048576):qfa a0=some true:=by
 have h1:=bkL_len (bk:=fun _:UInt8=>1) (fun x=>by simp) a0;unfold qfa;rw[Q4a _ (by omega),YIa];simp only[Option.bind_some,Bool.not_true,cond_false,jca];unfold yvb;by_cases hb:200000 < a0.length
 .rw[decide_eq_true (show (200000:Int) < (a0.length:Int) by omega),if_pos hb];rfl
 rw[decide_eq_false (show ¬(200000:Int) < (a0.length:Int) by omega),if_neg hb];simp only[cond_false];rw[Yha _ (by omega)];obtain ⟨r1,r2⟩:=ktb 100 a0 (by omega);simp only[Option.bind_some,beq_self_eq_true,cond_true];rw[Qla _ (by omega) (fun r hr=>(r2 r hr).sm)];rfl
theorem kub(a0:List Str)(r:kca)(hr:QMa a0=some r):Run prog 28 [.l cS a0] (.agg [.s r.Envelope.From,.l zba.pc r.Envelope.To,.s r.Envelope.Id,.l zea.pc r.Message.Fields,.l cU r.Message.Body]):=by
 unfold QMa at hr;refine rf (fn:=f28) ⟨func28,rfl,by kernel_rfl⟩ rfl (fun _=>rfl) fun g0 hg=>?_
 refine rn tk 10 rfl ?_;refine woa 1003 (o:=3) (j:=1) 78 2 rfl rfl rfl rfl (hO ?_);refine rn tk 1 rfl ?_;refine woa 2003 (o:=3) (j:=1) 78 2 rfl rfl rfl rfl (hO ?_);refine rn tk 9 rfl<|al1 hr (fun s1=>[(0,.l cS a0),(2,.ptr 2 0),(3,.ptr 3 0),(4,.i s1.1)]) (fun s1=>[(2003,.row 78 false 2 (List.map zba.pc s1.2)),(3,.cells [.s (([115,64,120]:Str)),.hs 2003 0,.s (([55]:Str)),.l zea.pc ([]),.l cU ([])]),(2,.cells [.s (([]:Str)),.l zba.pc ([]),.s (([]:Str)),.l zea.pc ([]),.l cU ([])])]) (.exit 0) (fun b2=>[(2,.ptr 2 0),(3,.ptr 3 0)]) (fun b2=>[(2003,.row 78 false 2 (List.map zba.pc b2)),(3,.cells [.s (([115,64,120]:Str)),.hs 2003 0,.s (([55]:Str)),.l zea.pc ([]),.l cU ([])]),(2,.cells [.s (([]:Str)),.l zba.pc ([]),.s (([]:Str)),.l zea.pc ([]),.l cU ([])])]) rfl rfl (fun s1 x3 hr=>?_) (fun b2 hr=>?_)
 .unfold y9a at hr;refine rn tk 5 rfl<|wn tk rfl rfl rfl<|rn tk 3 rfl<|ac 10 hr rfl (fun c4 hr=>?_) (fun c4 hr=>?_)
  .refine rn tk 4 rfl ?_;obtain ⟨v5,h6,hr⟩:=zaa hr;refine dr 9 [(21,.l zba.pc (([(zba.mk v5 1)]:List zba))),(20,.agg [.s v5,.i 1]),(19,.s v5),(18,.ep [pS v5]),(17,.i s1.1),(16,.l cS a0),(15,.hs 2003 0),(14,.ptr 3 1),(13,.ptr 3 0)] mixed (by kernel_rfl) rfl rfl (pq tk rfl (.plain rfl) (pq tk rfl (.plain rfl) (pq tk rfl (.plain rfl) (pq tk rfl (.plain rfl) (pq tk rfl (.plain rfl) (.run (.plain rfl) (zta (wYa (f:=cS) rfl rfl WRa z2a rfl h6)) (pq tk rfl (.plain rfl) (pq tk rfl (.plain rfl) (.run (.plain rfl) (yya (F:=zba.pc) (l:=([(zba.mk v5 1)]:List zba)) kga kea rfl (fun _=>rfl) rfl rfl) .nil))))))))) rfl ?_;obtain ⟨v7,h8,hr⟩:=zaa hr;refine wa tk h8 rfl rfl rfl rfl (fun _=>rfl) rfl rfl<|rn tk 11 rfl ?_;cases hr;exact atc rfl rfl
  refine rn tk 2 rfl ?_;cases hr;exact ato rfl rfl rfl rfl
 refine rn tk 8 rfl ?_;refine yca (o:=2) (j:=1) (F:=zba.pc) (l:=b2) rfl rfl rfl (hC ?_);refine rn tk 1 rfl ?_;cases hr;exact kr tk (.inr rfl) rfl rfl
theorem Qma(a0:List zla)(a1:List zla)(r:Bool)(hr:vPa a0 a1=some r):Run prog 19 [.l zla.pc a0,.l zla.pc a1] (.bo r):=by
 unfold vPa at hr;refine rf (fn:=f19) ⟨func19,rfl,by kernel_rfl⟩ rfl (fun _=>rfl) fun g0 hg=>?_
 refine rn tk 9 rfl<|wn tk rfl rfl rfl<|rn tk 1 rfl<|wn tk rfl rfl rfl<|rn tk 3 rfl<|ac 10 hr rfl (fun c1 hr=>?_) (fun c1 hr=>?_)
 .refine rn tk 7 rfl ?_;cases hr;exact kr tk (.inr rfl) rfl rfl
 refine rn tk 9 rfl<|al2 hr (fun s2=>[(0,.l zla.pc a0),(1,.l zla.pc a1),(5,.i s2)]) (fun s2=>[]) (.exit 0) (fun b3=>[]) (fun b3=>[]) .ret (fun b4=>[(4,.bo b4)]) (fun b4=>[]) rfl rfl (fun s2 x6 hr=>?_) (fun b3 hr=>?_) (fun b4 hr=>?_)
 .unfold vAa at hr;refine rn tk 5 rfl<|wn tk rfl rfl rfl<|rn tk 3 rfl<|ac 14 hr rfl (fun c7 hr=>?_) (fun c7 hr=>?_)
  .refine rn tk 5 rfl ?_;obtain ⟨v8,h9,hr⟩:=zaa hr;obtain ⟨v10,h11,hr⟩:=zaa hr;refine dr 8 [(24,.agg [.i v10.Entry,.i v10.Number,.i v10.Result]),(23,.ep [pI v10.Entry,pI v10.Number,pI v10.Result]),(22,.i s2),(21,.l zla.pc a1),(20,.agg [.i v8.Entry,.i v8.Number,.i v8.Result]),(19,.ep [pI v8.Entry,pI v8.Number,pI v8.Result]),(18,.i s2),(17,.l zla.pc a0)] mixed (by kernel_rfl) rfl rfl (pq tk rfl (.plain rfl) (pq tk rfl (.plain rfl) (.run (.plain rfl) (zta (wYa (f:=zla.pc) rfl rfl wla waa rfl h9)) (pq tk rfl (.plain rfl) (pq tk rfl (.plain rfl) (pq tk rfl (.plain rfl) (.run (.plain rfl) (zta (wYa (f:=zla.pc) rfl rfl wla waa rfl h11)) (pq tk rfl (.plain rfl) .nil)))))))) rfl<|wq (Zea rfl rfl waa WMa (.int rfl (by decide) z7a (.int rfl (by decide) z7a (.int rfl (by decide) z7a .nil)))) rfl rfl rfl<|rn tk 2 rfl<|ac 25 hr rfl (fun c12 hr=>?_) (fun c12 hr=>?_)
   .refine rn tk 8 rfl ?_;cases hr;exact ato rfl rfl rfl rfl
   refine rn tk 8 rfl ?_;cases hr;exact atc rfl rfl
  refine rn tk 2 rfl ?_;cases hr;exact ato rfl rfl rfl rfl
 .refine rn tk 8 rfl ?_;cases hr;exact kr tk (.inr rfl) rfl rfl
 refine rn tk 2 rfl ?_;cases hr;exact kr tk (.inr rfl) rfl rfl
theorem kja(a0:Int)(a1:Int)(r:zqa)(hr:R_At a0 a1=some r):Run prog 10 [.i a0,.i a1] (.agg [.i r.Code,.i r.Index]):=by
 unfold R_At at hr;refine rf (fn:=f10) ⟨func10,rfl,by kernel_rfl⟩ rfl (fun _=>rfl) fun g0 hg=>?_
 refine rn tk 14 rfl ?_;cases hr;exact kr tk (.inr rfl) rfl rfl
theorem zPa(a0:zqa)(r:Bool)(hr:z3a a0=some r):Run prog 24 [.agg [.i a0.Code,.i a0.Index]] (.bo r):=by
 unfold z3a at hr;refine rf (fn:=f24) ⟨func24,rfl,by kernel_rfl⟩ rfl (fun _=>rfl) fun g0 hg=>?_
 refine rn tk 15 rfl ?_;cases hr;exact kr tk (.inr rfl) rfl rfl
theorem zka(a0:Int)(a1:Int)(r:zqa)(hr:zpa a0 a1=some r):Run prog 22 [.i a0,.i a1] (.agg [.i r.Code,.i r.Index]):=by
 unfold zpa at hr;refine rf (fn:=f22) ⟨func22,rfl,by kernel_rfl⟩ rfl (fun _=>rfl) fun g0 hg=>?_
 refine rn tk 14 rfl ?_;cases hr;exact kr tk (.inr rfl) rfl rfl
theorem zWa(r:zqa)(hr:kpa=some r):Run prog 27 [] (.agg [.i r.Code,.i r.Index]):=by
 unfold kpa at hr;refine rf (fn:=f27) ⟨func27,rfl,by kernel_rfl⟩ rfl (fun _=>rfl) fun g0 hg=>?_
 refine rn tk 12 rfl ?_;cases hr;exact kr tk (.inr rfl) rfl rfl
theorem jia(a0:List (List UInt8))(r:List UInt8)(hr:kMa a0=some r):Run prog 25 [.l (cL cU) a0] (.l cU r):=by
 unfold kMa at hr;refine rf (fn:=f25) ⟨func25,rfl,by kernel_rfl⟩ rfl (fun _=>rfl) fun g0 hg=>?_
 refine rn tk 14 rfl<|wn tk rfl rfl rfl<|rn tk 4 rfl<|al1 hr (fun s1=>[(0,.l (cL cU) a0),(3,.i s1.1),(9,.l (cL cU) a0),(10,.i ((a0.length:Int))),(11,.i s1.2)]) (fun s1=>[]) (.exit 0) (fun b2=>[(0,.l (cL cU) a0),(3,.i b2)]) (fun b2=>[]) rfl rfl (fun s1 x3 hr=>?_) (fun b2 hr=>?_)
 .unfold kua at hr;refine rn tk 6 rfl<|ac 12 hr rfl (fun c4 hr=>?_) (fun c4 hr=>?_)
  .refine rn tk 6 rfl ?_;obtain ⟨v5,h6,hr⟩:=zaa hr;refine wi tk h6 rfl rfl rfl rfl rfl<|rn tk 8 rfl<|wn tk rfl rfl rfl<|rn tk 10 rfl<|ac 20 hr rfl (fun c7 hr=>?_) (fun c7 hr=>?_)
   .refine rn tk 1 rfl ?_;cases hr
   refine rn tk 7 rfl ?_;cases hr;exact atc rfl rfl
  refine rn tk 2 rfl ?_;cases hr;exact ato rfl rfl rfl rfl
 refine rn tk 5 rfl<|il (fn:=f50) (args:=[.pv (.sl (some true) []),.i b2]) 100000 199999 [(0,.l (cL cU) a0)] rfl ⟨func50,rfl,by kernel_rfl⟩ rfl rfl rfl fun T1 ds1=>?_
 refine rn tk 12 rfl<|ac 6 hr rfl (fun c8 hr=>?_) (fun c8 hr=>?_)
 .refine rn tk 1 rfl ?_;cases hr
 refine rn tk 7 rfl<|wq (zIb rfl zoa.u) rfl rfl rfl<|rn tk 1 rfl<|wq (zJb rfl zoa.u) rfl rfl rfl<|rn tk 11 rfl<|ac 16 hr rfl (fun c9 hr=>?_) (fun c9 hr=>?_)
 .refine rn tk 3 rfl<|wq (zIb rfl zoa.u) rfl rfl rfl<|wq (ev_slnil rfl rfl zoa zNa) rfl rfl rfl<|rn tk 1 rfl ?_;obtain ⟨v10,h11,hr⟩:=zaa hr;refine wo (zKb (k:=22) (F:=cU) (z:=((0:UInt8):UInt8)) (lim:=140737488355328) 1022 rfl rfl rfl rfl rfl zoa z7a zNa rfl rfl rfl h11) rfl<|rn tk 1 rfl<|wq (zJb rfl zoa.u) rfl rfl rfl ?_;obtain ⟨v12,h13,hr⟩:=zaa hr;refine wo (q9b (k:=25) (F:=cU) (l:=v10) rfl rfl rfl rfl zoa zNa h13) rfl<|rn tk 10 rfl ?_;refine ie tk [.hs 1022 0] [(0,.l (cL cU) a0)] [(1022,.row 5 true 1 (List.map cU v12))] (.inr rfl) rfl rfl rfl rfl (hO ?_);refine rn tk 7 rfl<|wn tk rfl rfl rfl<|rn tk 4 rfl<|al1 hr (fun s14=>[(6,.hs 1022 0),(25,.l (cL cU) a0),(26,.i ((a0.length:Int))),(27,.i s14.1)]) (fun s14=>[(1022,.row 5 true 1 (List.map cU s14.2))]) (.exit 2) (fun b15=>[(6,.hs 1022 0)]) (fun b15=>[(1022,.row 5 true 1 (List.map cU b15))]) rfl rfl (fun s14 x16 hr=>?_) (fun b15 hr=>?_)
  .unfold kva at hr;refine rn tk 6 rfl<|ac 28 hr rfl (fun c17 hr=>?_) (fun c17 hr=>?_)
   .refine rn tk 6 rfl ?_;obtain ⟨v18,h19,hr⟩:=zaa hr;refine wi tk h19 rfl rfl rfl rfl rfl<|rn tk 7 rfl ?_;obtain ⟨v20,h21,hr⟩:=zaa hr;refine wa tk h21 rfl rfl rfl rfl (fun _=>rfl) rfl rfl<|rn tk 8 rfl ?_;cases hr;exact atc rfl rfl
   refine rn tk 2 rfl ?_;cases hr;exact ato rfl rfl rfl rfl
  refine rn tk 8 rfl ?_;refine Zfa 1022 rfl (hC ?_);refine vxa (d:=2) (F:=cU) (l:=b15) rfl rfl (hC ?_);refine rn tk 1 rfl ?_;cases hr;exact kr tk (.inr rfl) rfl rfl
 refine rn tk 5 rfl ?_;refine qja 1026 (d:=26) 5 1 rfl rfl rfl (hO ?_);refine rn tk 4 rfl ?_;refine ie tk [.hs 1026 0] [(0,.l (cL cU) a0)] [(1026,.row 5 false 1 (List.map cU (([]:List UInt8))))] (.inr rfl) rfl rfl rfl rfl (hO ?_);refine rn tk 7 rfl<|wn tk rfl rfl rfl<|rn tk 4 rfl<|al1 hr (fun s22=>[(6,.hs 1026 0),(25,.l (cL cU) a0),(26,.i ((a0.length:Int))),(27,.i s22.1)]) (fun s22=>[(1026,.row 5 false 1 (List.map cU s22.2))]) (.exit 2) (fun b23=>[(6,.hs 1026 0)]) (fun b23=>[(1026,.row 5 false 1 (List.map cU b23))]) rfl rfl (fun s22 x24 hr=>?_) (fun b23 hr=>?_)
 .unfold kRa at hr;refine rn tk 6 rfl<|ac 28 hr rfl (fun c25 hr=>?_) (fun c25 hr=>?_)
  .refine rn tk 6 rfl ?_;obtain ⟨v26,h27,hr⟩:=zaa hr;refine wi tk h27 rfl rfl rfl rfl rfl<|rn tk 7 rfl ?_;obtain ⟨v28,h29,hr⟩:=zaa hr;refine wa tk h29 rfl rfl rfl rfl (fun _=>rfl) rfl rfl<|rn tk 8 rfl ?_;cases hr;exact atc rfl rfl
  refine rn tk 2 rfl ?_;cases hr;exact ato rfl rfl rfl rfl
 refine rn tk 8 rfl ?_;refine vxa (d:=2) (F:=cU) (l:=b23) rfl rfl (hC ?_);refine rn tk 1 rfl ?_;cases hr;exact kr tk (.inr rfl) rfl rfl
theorem vwa(a0:Int)(r:Bool)(hr:qZa a0=some r):Run prog 46 [.i a0] (.bo r):=by
 unfold qZa at hr;refine jKa (fn:=f46) ⟨func46,rfl,by kernel_rfl⟩ rfl (fun _=>rfl) fun g0 hg=>?_
 refine vCa ?_;refine kOa ?_;refine zIa rfl (zKa (d:=2) rfl rfl qAa) ?_;refine qsa<|kra ?_;obtain ⟨j1,hx,hy⟩:=zaa hr;refine Wga (fun j1=>[(2,.bo j1)]) (fun j1=>[]) (fun z=>j1=z) ?_ ?_
 .have hr:=hx;clear hx hy;refine kOa ?_;refine zIa rfl (zKa (d:=3) rfl rfl kVa) ?_;refine zIa rfl (zKa (d:=4) rfl rfl (vYb rfl rfl)) ?_;refine zIa rfl (zKa (d:=5) rfl rfl kVa)<|qka (decide ((-68719476736)<=a0)) (fun c2=>?_) (fun c2=>?_)
  .replace hr:=yWa c2 hr
   refine yIa (d:=5) rfl rfl rfl c2 (zKa (d:=6) rfl rfl kVa) ?_;refine yIa (d:=5) rfl rfl rfl c2 (zKa (d:=7) rfl rfl (ev_leq rfl rfl)) ?_;refine zIa rfl (zKa (d:=8) rfl rfl (zya rfl c2)) ?_;refine zIa rfl (zKa (d:=2) rfl rfl qAa) ?_;refine qsa ?_;cases hr;exact jqa _ rfl (zga rfl z1a) zna
  replace hr:=yXa c2 hr
  refine jDa (d:=5) rfl rfl rfl c2 ?_;refine jDa (d:=5) rfl rfl rfl c2 ?_;refine zIa rfl (zKa (d:=8) rfl rfl (vDa rfl c2)) ?_;refine zIa rfl (zKa (d:=2) rfl rfl qAa) ?_;refine qsa ?_;cases hr;exact jqa _ rfl (zga rfl z1a) zna
 rintro _ rfl;have hr:=hy;clear hx hy;refine Vca ?_;cases hr;exact v2b rfl (.cons (Vha rfl) .nil) rfl
theorem ZKa(a0:UInt8)(r:Bool)(hr:wsa a0=some r):Run prog 141 [.u8 a0] (.bo r):=by
 unfold wsa at hr;refine rf (fn:=f141) ⟨func141,rfl,by kernel_rfl⟩ rfl (fun _=>rfl) fun g0 hg=>?_
 refine rn tk 5 rfl<|jb hr (fun j1=>[(2,.bo j1)]) (fun j1=>[]) (fun j1 hr=>?_) (fun j1 hr=>?_)
 .refine rn tk 4 rfl<|bs 5 hr rfl (fun c2 hr=>?_) (fun c2 hr=>?_)
  .refine rn tk 4 rfl<|bs 9 hr rfl (fun c3 hr=>?_) (fun c3 hr=>?_)
   .refine rn tk 17 rfl ?_;cases hr;exact jn _ rfl rfl rfl
   refine rn tk 3 rfl<|bs 12 hr rfl (fun c4 hr=>?_) (fun c4 hr=>?_)
   .refine rn tk 5 rfl<|bs 17 hr rfl (fun c5 hr=>?_) (fun c5 hr=>?_)
    .refine rn tk 9 rfl ?_;cases hr;exact jn _ rfl rfl rfl
    refine rn tk 3 rfl<|bs 20 hr rfl (fun c6 hr=>?_) (fun c6 hr=>?_)
    .refine rn tk 6 rfl ?_;cases hr;exact jn _ rfl rfl rfl
    refine rn tk 6 rfl ?_;cases hr;exact jn _ rfl rfl rfl
   refine rn tk 8 rfl<|bs 20 hr rfl (fun c7 hr=>?_) (fun c7 hr=>?_)
   .refine rn tk 6 rfl ?_;cases hr;exact jn _ rfl rfl rfl
   refine rn tk 6 rfl ?_;cases hr;exact jn _ rfl rfl rfl
  refine rn tk 7 rfl<|bs 12 hr rfl (fun c8 hr=>?_) (fun c8 hr=>?_)
  .refine rn tk 5 rfl<|bs 17 hr rfl (fun c9 hr=>?_) (fun c9 hr=>?_)
   .refine rn tk 9 rfl ?_;cases hr;exact jn _ rfl rfl rfl
   refine rn tk 3 rfl<|bs 20 hr rfl (fun c10 hr=>?_) (fun c10 hr=>?_)
   .refine rn tk 6 rfl ?_;cases hr;exact jn _ rfl rfl rfl
   refine rn tk 6 rfl ?_;cases hr;exact jn _ rfl rfl rfl
  refine rn tk 8 rfl<|bs 20 hr rfl (fun c11 hr=>?_) (fun c11 hr=>?_)
  .refine rn tk 6 rfl ?_;cases hr;exact jn _ rfl rfl rfl
  refine rn tk 6 rfl ?_;cases hr;exact jn _ rfl rfl rfl
 refine rn tk 1 rfl ?_;cases hr;exact kr tk (.inr rfl) rfl rfl
theorem YJa(a0:Str)(r:Bool)(hr:jRa a0=some r):Run prog 125 [.s a0] (.bo r):=by
 unfold jRa at hr;refine rf (fn:=f125) ⟨func125,rfl,by kernel_rfl⟩ rfl (fun _=>rfl) fun g0 hg=>?_
 refine rn tk 5 rfl<|jb hr (fun j1=>[(2,.bo j1)]) (fun j1=>[]) (fun j1 hr=>?_) (fun j1 hr=>?_)
 .refine rn tk 4 rfl<|bs 5 hr rfl (fun c2 hr=>?_) (fun c2 hr=>?_)
  .refine rn tk 5 rfl<|bs 10 hr rfl (fun c3 hr=>?_) (fun c3 hr=>?_)
   .refine rn tk 1 rfl<|ug rfl rfl rfl<|ct hr (fun j4=>[(10,.bo true),(12,.bo j4)]) (fun j4=>[]) (fun j4 hr jump4=>?_) (fun j4 hr=>?_)
    .refine il (fn:=f120) (args:=[.s a0,.fn (.func 140) [] []]) 400000 499999 [(10,.bo true)] rfl ⟨func120,rfl,by kernel_rfl⟩ rfl rfl rfl fun T4 ds4=>?_
     refine rn tk 14 rfl<|al2 hr (fun s5=>[(0,.s a0),(1,.fn (.func 140) [] []),(7,.i ((a0.length:Int))),(8,.i s5)]) (fun s5=>[(499999,.sus g0.w.heap.size ds4),(400010,.hold (.bo true) (T4.getD 10 undef))]) (.exit 0) (fun b6=>[]) (fun b6=>[(499999,.sus g0.w.heap.size ds4),(400010,.hold (.bo true) (T4.getD 10 undef))]) .ret (fun b7=>[(4,.bo false)]) (fun b7=>[(499999,.sus g0.w.heap.size ds4),(400010,.hold (.bo true) (T4.getD 10 undef))]) rfl rfl (fun s5 x9 hr=>?_) (fun b6 hr=>?_) (fun b7 hr=>?_)
     .unfold wEa at hr;refine rn tk 6 rfl<|ac 9 hr rfl (fun c10 hr=>?_) (fun c10 hr=>?_)
      .refine rn tk 15 rfl ?_;obtain ⟨v11,h12,hr⟩:=zaa hr;refine ws tk h12 rfl rfl rfl rfl<|il (fn:=f140) (args:=[.u8 v11]) 600000 699999 [(0,.s a0),(1,.fn (.func 140) [] []),(7,.i ((a0.length:Int))),(8,.i s5)] rfl ⟨func140,rfl,by kernel_rfl⟩ rfl rfl rfl fun T6 ds6=>?_
       refine rn tk 5 rfl<|jb hr (fun j13=>[(2,.bo j13)]) (fun j13=>[(699999,.sus g0.w.heap.size ds6),(600000,.hold (.s a0) (T6.getD 0 undef)),(600001,.hold (.fn (.func 140) [] []) (T6.getD 1 undef)),(600007,.hold (.i ((a0.length:Int))) (T6.getD 7 undef)),(600008,.hold (.i s5) (T6.getD 8 undef)),(499999,.sus g0.w.heap.size ds4),(400010,.hold (.bo true) (T4.getD 10 undef))]) (fun j13 hr=>?_) (fun j13 hr=>?_)
       .refine rn tk 2 rfl ?_;obtain ⟨v14,h15,hr⟩:=zaa hr;refine cl (ZKa _ _ h15) rfl rfl<|rn tk 1 rfl<|bs 5 hr rfl (fun c16 hr=>?_) (fun c16 hr=>?_)
        .refine rn tk 13 rfl ?_;cases hr;exact jn _ rfl rfl rfl
        refine rn tk 4 rfl<|bs 9 hr rfl (fun c17 hr=>?_) (fun c17 hr=>?_)
        .refine rn tk 9 rfl ?_;cases hr;exact jn _ rfl rfl rfl
        refine rn tk 4 rfl<|bs 13 hr rfl (fun c18 hr=>?_) (fun c18 hr=>?_)
        .refine rn tk 5 rfl ?_;cases hr;exact jn _ rfl rfl rfl
        refine rn tk 5 rfl ?_;cases hr;exact jn _ rfl rfl rfl
       refine rn tk 1 rfl ?_;refine ie tk [.bo j13] [(0,.s a0),(1,.fn (.func 140) [] []),(7,.i ((a0.length:Int))),(8,.i s5)] [(499999,.sus g0.w.heap.size ds4),(400010,.hold (.bo true) (T4.getD 10 undef))] (.inr rfl) rfl rfl rfl rfl (hO ?_);refine rn tk 3 rfl<|ac 16 hr rfl (fun c19 hr=>?_) (fun c19 hr=>?_)
       .refine rn tk 8 rfl ?_;cases hr;exact ato rfl rfl rfl rfl
       refine rn tk 7 rfl ?_;cases hr;exact atc rfl rfl
      refine rn tk 2 rfl ?_;cases hr;exact ato rfl rfl rfl rfl
     .refine rn tk 8 rfl ?_;refine ie tk [.bo true] [(10,.bo true)] [] (.inr rfl) rfl rfl rfl rfl ?_;cases hr;exact jump4 _ _ rfl rfl
     refine rn tk 2 rfl ?_;refine ie tk [.bo false] [(10,.bo true)] [] (.inr rfl) rfl rfl rfl rfl ?_;cases hr;exact jump4 _ _ rfl rfl
    refine rn tk 3 rfl ?_;cases hr;exact jn _ rfl rfl rfl
   refine rn tk 5 rfl ?_;cases hr;exact jn _ rfl rfl rfl
  refine rn tk 10 rfl ?_;cases hr;exact jn _ rfl rfl rfl
 refine rn tk 1 rfl ?_;cases hr;exact kr tk (.inr rfl) rfl rfl
end Go.Proofs.YtdblnmhmmfahkaaGreat
namespace Go.Proofs
open Go.Shelf
def Tryz.lays137_ren:Go.Shelf.Ren:=⟨fun | 137=>149 | 217=>156 | 266=>163 | n=>n,fun | 9=>9 | 5=>5 | 3=>3 | n=>n,fun | n=>n⟩
theorem Tryz.cqz{α:Type}{a:Option α}{x y:α}(h:a=some x)(e:x=y):a=some y:=h.trans (congrArg some e)
theorem Tryz.lays137:Go.Proofs.Lays.n137 prog Tryz.lays137_ren:=⟨by kernel_rfl,cqz func149 (by kernel_rfl),cqz func156 (by kernel_rfl),cqz func163 (by kernel_rfl),underlying3,isAgg3,sizeOf3,zeroValue3,underlying5,isAgg5,sizeOf5,zeroValue5,underlying9,isAgg9,sizeOf9,zeroValue9⟩
open Go.RowKit in
theorem Tryz.strings_IndexByte(s:ByteArray)(c:Int)(w:World):
 Calls prog 149 #[.string s,.int .u8 c] w fun e w' =>e=.returned (.int .i64 (Lib.indexByte s.data.toList c.toNat.toUInt8))/\w' =w:=Any.strings_IndexByte Tryz.lays137 s c w
def Tryz.lays144_ren:Go.Shelf.Ren:=⟨fun | 144=>123 | 143=>139 | 219=>150 | 217=>156 | 225=>157 | 224=>158 | 267=>159 | 266=>163 | 314=>164 | n=>n,fun | 9=>9 | 4=>4 | 3=>3 | 5=>5 | 46=>189 | 146=>201 | 51=>200 | n=>n,fun | 1=>0 | n=>n⟩
theorem Tryz.lays144:Go.Proofs.Lays.n144 prog Tryz.lays144_ren:=⟨by kernel_rfl,cqz func139 (by kernel_rfl),cqz func123 (by kernel_rfl),cqz func156 (by kernel_rfl),cqz func150 (by kernel_rfl),cqz func158 (by kernel_rfl),cqz func157 (by kernel_rfl),cqz func163 (by kernel_rfl),cqz func159 (by kernel_rfl),cqz func164 (by kernel_rfl),underlying3,isAgg3,sizeOf3,zeroValue3,underlying4,isAgg4,sizeOf4,zeroValue4,underlying5,isAgg5,sizeOf5,zeroValue5,underlying9,isAgg9,sizeOf9,zeroValue9,underlying189,isAgg189,sizeOf189,zeroValue189,underlying200,isAgg200,sizeOf200,zeroValue200,underlying201,isAgg201,sizeOf201,zeroValue201,by kernel_rfl⟩
open Go.RowKit Go.Lib in
theorem Tryz.strings_Contains(s sub:ByteArray)(m:Int)(w:World)(hs:s.size < 4294967281)(hm:w.cell? ⟨0,0,none⟩=some (.int .i64 m)):
 Calls prog 123 #[.string s,.string sub] w fun e w' =>e=.returned (.bool (Lib.contains s.data.toList sub.data.toList))/\w' =w:=Any.strings_Contains Tryz.lays144 s sub m w hs hm
def Tryz.lays145_ren:Go.Shelf.Ren:=⟨fun | 145=>147 | 220=>155 | 219=>150 | 217=>156 | 225=>157 | 224=>158 | 267=>159 | 266=>163 | 314=>164 | n=>n,fun | 9=>9 | 4=>4 | 59=>186 | 3=>3 | 5=>5 | 46=>189 | 146=>201 | 51=>200 | n=>n,fun | 1=>0 | n=>n⟩
theorem Tryz.lays145:Go.Proofs.Lays.n145 prog Tryz.lays145_ren:=⟨by kernel_rfl,cqz func147 (by kernel_rfl),cqz func156 (by kernel_rfl),cqz func150 (by kernel_rfl),cqz func155 (by kernel_rfl),cqz func158 (by kernel_rfl),cqz func157 (by kernel_rfl),cqz func163 (by kernel_rfl),cqz func159 (by kernel_rfl),cqz func164 (by kernel_rfl),underlying3,isAgg3,sizeOf3,zeroValue3,underlying4,isAgg4,sizeOf4,zeroValue4,underlying5,isAgg5,sizeOf5,zeroValue5,underlying9,isAgg9,sizeOf9,zeroValue9,underlying189,isAgg189,sizeOf189,zeroValue189,underlying200,isAgg200,sizeOf200,zeroValue200,underlying186,isAgg186,sizeOf186,zeroValue186,underlying201,isAgg201,sizeOf201,zeroValue201,by kernel_rfl⟩
open Go.RowKit Go.Lib in
theorem Tryz.strings_Cut(s sep:ByteArray)(m:Int)(w:World)(hs:s.size < 4294967281)(hm:w.cell? ⟨0,0,none⟩=some (.int .i64 m)):
 Calls prog 147 #[.string s,.string sep] w fun e w' =>e=.returned (.tuple #[.string ⟨(Lib.cut s.data.toList sep.data.toList).1.toArray⟩,.string ⟨(Lib.cut s.data.toList sep.data.toList).2.1.toArray⟩,.bool (Lib.cut s.data.toList sep.data.toList).2.2])/\∃n,w' =w.drewN n:=Any.strings_Cut Tryz.lays145 s sep m w hs hm
def Tryz.lays99_ren:Go.Shelf.Ren:=⟨fun | 99=>121 | 206=>137 | n=>n,fun | 9=>9 | 4=>4 | 3=>3 | n=>n,fun | n=>n⟩
theorem Tryz.lays99:Go.Proofs.Lays.n99 prog Tryz.lays99_ren:=⟨by kernel_rfl,cqz func121 (by kernel_rfl),cqz func137 (by kernel_rfl),underlying3,isAgg3,sizeOf3,zeroValue3,underlying4,isAgg4,sizeOf4,zeroValue4,underlying9,isAgg9,sizeOf9,zeroValue9⟩
open Go.RowKit Go.Lib in
theorem Tryz.strings_HasPrefix(s p:ByteArray)(w:World):
 Calls prog 121 #[.string s,.string p] w fun e w' =>e=.returned (.bool (Lib.hasPrefix s.data.toList p.data.toList))/\w' =w:=Any.strings_HasPrefix Tryz.lays99 s p w
def Tryz.lays100_ren:Go.Shelf.Ren:=⟨fun | 100=>122 | 207=>138 | n=>n,fun | 9=>9 | 4=>4 | 3=>3 | n=>n,fun | n=>n⟩
theorem Tryz.lays100:Go.Proofs.Lays.n100 prog Tryz.lays100_ren:=⟨by kernel_rfl,cqz func122 (by kernel_rfl),cqz func138 (by kernel_rfl),underlying3,isAgg3,sizeOf3,zeroValue3,underlying4,isAgg4,sizeOf4,zeroValue4,underlying9,isAgg9,sizeOf9,zeroValue9⟩
open Go.RowKit Go.Lib in
theorem Tryz.strings_HasSuffix(s p:ByteArray)(w:World)(hs:s.size<=9223372036854775807):
 Calls prog 122 #[.string s,.string p] w fun e w' =>e=.returned (.bool (Lib.hasSuffix s.data.toList p.data.toList))/\w' =w:=Any.strings_HasSuffix Tryz.lays100 s p w hs
def Tryz.lays226_ren:Go.Shelf.Ren:=⟨fun | 226=>168 | n=>n,fun | 3=>3 | 4=>4 | n=>n,fun | n=>n⟩
theorem Tryz.lays226:Go.Proofs.Lays.n226 prog Tryz.lays226_ren:=⟨by kernel_rfl,cqz func168 (by kernel_rfl),underlying3,isAgg3,sizeOf3,zeroValue3,underlying4,isAgg4,sizeOf4,zeroValue4⟩
open Go.RowKit Go.Lib in
theorem Tryz.strings_shouldUseASCIISet(n:Int)(w:World):
 Calls prog 168 #[.int .i64 n] w fun e w' =>e=.returned (.bool (decide (8 < n)))/\w' =w:=Any.strings_shouldUseASCIISet Tryz.lays226 n w
def Tryz.lays153_ren:Go.Shelf.Ren:=⟨fun | 153=>166 | 152=>167 | 226=>168 | 227=>169 | 228=>170 | 137=>149 | 119=>171 | 224=>158 | 225=>157 | 217=>156 | 266=>163 | n=>n,fun | 9=>9 | 3=>3 | 4=>4 | 5=>5 | 21=>21 | 117=>206 | 116=>205 | 0=>0 | 46=>189 | 124=>209 | n=>n,fun | n=>n⟩
theorem Tryz.lays153:Go.Proofs.Lays.n153 prog Tryz.lays153_ren:=⟨by kernel_rfl,cqz func171 (by kernel_rfl),cqz func149 (by kernel_rfl),cqz func167 (by kernel_rfl),cqz func166 (by kernel_rfl),cqz func156 (by kernel_rfl),cqz func158 (by kernel_rfl),cqz func157 (by kernel_rfl),cqz func168 (by kernel_rfl),cqz func169 (by kernel_rfl),cqz func170 (by kernel_rfl),cqz func163 (by kernel_rfl),underlying0,isAgg0,sizeOf0,zeroValue0,underlying3,isAgg3,sizeOf3,zeroValue3,underlying4,isAgg4,sizeOf4,zeroValue4,underlying5,isAgg5,sizeOf5,zeroValue5,underlying9,isAgg9,sizeOf9,zeroValue9,underlying21,isAgg21,sizeOf21,zeroValue21,underlying189,isAgg189,sizeOf189,zeroValue189,underlying205,isAgg205,sizeOf205,underlying206,isAgg206,sizeOf206,zeroValue206,underlying209,isAgg209,sizeOf209,zeroValue209⟩
open Go.RowKit Go.Lib in
theorem Tryz.strings_IndexAny_long(hv116:∀w,(zeroValue 205).run prog w=.ok (.agg (Array.replicate 256 (.bool false))) w)(s chars:ByteArray)(w:World)(h2:2<=chars.size)(h8:8 < s.size)(hs:s.size < 4294967281)(hcs:chars.size < 4294967281)(hascii:∀(j:Nat) b,chars.data.toList[j]? =some b->b.toNat < 128):
 Calls prog 166 #[.string s,.string chars] w fun e w' =>e=.returned (.int .i64 (Lib.indexAny s.data.toList chars.data.toList))/\w' =((w.alloc (.cells (Lib.setCells chars.data.toList) 205)).alloc (.cells (Lib.setCells chars.data.toList) 205)):=Any.strings_IndexAny_long Tryz.lays153 hv116 (by kernel_rfl) s chars w h2 h8 hs hcs hascii
open Go.RowKit Go.Lib in
theorem Tryz.strings_IndexAny(hv116:∀w,(zeroValue 205).run prog w=.ok (.agg (Array.replicate 256 (.bool false))) w)(s chars:ByteArray)(w:World)(hs:s.size < 4294967281)(hcs:chars.size < 4294967281)(has:∀(j:Nat) b,s.data.toList[j]? =some b->b.toNat < 128)(hac:∀(j:Nat) b,chars.data.toList[j]? =some b->b.toNat < 128):
 Calls prog 166 #[.string s,.string chars] w fun e w' =>e=.returned (.int .i64 (Lib.indexAny s.data.toList chars.data.toList))/\Below w.heap.size w w' :=Any.strings_IndexAny Tryz.lays153 hv116 (by kernel_rfl) s chars w hs hcs has hac
def Tryz.lays150_ren:Go.Shelf.Ren:=⟨fun | 150=>165 | 153=>166 | 152=>167 | 226=>168 | 227=>169 | 228=>170 | 137=>149 | 119=>171 | 224=>158 | 225=>157 | 217=>156 | 266=>163 | n=>n,fun | 9=>9 | 4=>4 | 3=>3 | 5=>5 | 21=>21 | 117=>206 | 116=>205 | 0=>0 | 46=>189 | 124=>209 | n=>n,fun | n=>n⟩
theorem Tryz.lays150:Go.Proofs.Lays.n150 prog Tryz.lays150_ren:=⟨by kernel_rfl,cqz func171 (by kernel_rfl),cqz func149 (by kernel_rfl),cqz func165 (by kernel_rfl),cqz func167 (by kernel_rfl),cqz func166 (by kernel_rfl),cqz func156 (by kernel_rfl),cqz func158 (by kernel_rfl),cqz func157 (by kernel_rfl),cqz func168 (by kernel_rfl),cqz func169 (by kernel_rfl),cqz func170 (by kernel_rfl),cqz func163 (by kernel_rfl),underlying0,isAgg0,sizeOf0,zeroValue0,underlying3,isAgg3,sizeOf3,zeroValue3,underlying4,isAgg4,sizeOf4,zeroValue4,underlying5,isAgg5,sizeOf5,zeroValue5,underlying9,isAgg9,sizeOf9,zeroValue9,underlying21,isAgg21,sizeOf21,zeroValue21,underlying189,isAgg189,sizeOf189,zeroValue189,underlying205,isAgg205,sizeOf205,underlying206,isAgg206,sizeOf206,zeroValue206,underlying209,isAgg209,sizeOf209,zeroValue209⟩
open Go.RowKit Go.Lib in
theorem Tryz.strings_ContainsAny(hv116:∀w,(zeroValue 205).run prog w=.ok (.agg (Array.replicate 256 (.bool false))) w)(s chars:ByteArray)(w:World)(hs:s.size < 4294967281)(hcs:chars.size < 4294967281)(has:∀(j:Nat) b,s.data.toList[j]? =some b->b.toNat < 128)(hac:∀(j:Nat) b,chars.data.toList[j]? =some b->b.toNat < 128):
 Calls prog 165 #[.string s,.string chars] w fun e w' =>e=.returned (.bool (Lib.containsAny s.data.toList chars.data.toList))/\Below w.heap.size w w' :=Any.strings_ContainsAny Tryz.lays150 hv116 (by kernel_rfl) s chars w hs hcs has hac
def Tryz.lays115_ren:Go.Shelf.Ren:=⟨fun | 115=>105 | n=>n,fun | 37=>22 | 4=>4 | 9=>9 | 5=>5 | n=>n,fun | n=>n⟩
theorem Tryz.lays115:Go.Proofs.Lays.n115 prog Tryz.lays115_ren:=⟨by kernel_rfl,cqz func105 (by kernel_rfl),underlying4,isAgg4,sizeOf4,zeroValue4,underlying9,isAgg9,sizeOf9,zeroValue9,underlying22,isAgg22,sizeOf22,zeroValue22⟩
def Tryz.laysnb116_ren:Go.Shelf.Ren:=⟨fun | 116=>61 | 115=>105 | n=>n,fun | 37=>22 | 4=>4 | 3=>3 | 9=>9 | 5=>5 | n=>n,fun | n=>n⟩
theorem Tryz.laysnb116:Go.Proofs.Lays.nb116 prog Tryz.laysnb116_ren:={mixed:=by kernel_rfl,f115:=cqz func105 (by kernel_rfl),f116:=cqz func61 (by kernel_rfl),t3:=underlying3,a3:=isAgg3,z3:=sizeOf3,v3:=zeroValue3,t4:=underlying4,a4:=isAgg4,z4:=sizeOf4,v4:=zeroValue4,t9:=underlying9,a9:=isAgg9,z9:=sizeOf9,v9:=zeroValue9,t37:=underlying22,a37:=isAgg22,z37:=sizeOf22,v37:=zeroValue22,t5:=underlying5,a5:=isAgg5,z5:=sizeOf5,v5:=zeroValue5}
theorem Tryz.bytes_Equal(v1 v2:Value)(xs ys:List Int)(w:World)(h1:(convert 22 9 v1).run prog w=.ok (.string (strOfNums xs)) w)(h2:(convert 22 9 v2).run prog w=.ok (.string (strOfNums ys)) w):
 Calls prog 105 #[v1,v2] w fun e w' =>e=.returned (.bool (Lib.bytesOf xs==Lib.bytesOf ys))/\w' =w:=Any.bytes_Equal Tryz.lays115 v1 v2 xs ys w h1 h2
theorem Tryz.bytes_HasPrefix(b1 o1 n c b2 o2 m d:Nat)(xs ys:List Int)(w:World)(hx:xs.length=n)(hy:ys.length=m)(hnc:n<=c)(hc1:∀i,i < n->w.cell? ⟨b1,o1+i,none⟩=some (.int .u8 (xs.getD i 0)))(hc2:∀i,i < m->w.cell? ⟨b2,o2+i,none⟩=some (.int .u8 (ys.getD i 0))):
 Calls prog 61 #[.slice (some ⟨b1,o1,none⟩) n c,.slice (some ⟨b2,o2,none⟩) m d] w fun e w' =>e=.returned (.bool (Lib.hasPrefix (Lib.bytesOf xs) (Lib.bytesOf ys)))/\w' =w:=Any.bytes_HasPrefix Tryz.laysnb116 b1 o1 n c b2 o2 m d xs ys w hx hy hnc hc1 hc2
end Go.Proofs
namespace Go.Proofs.YtdblnmhmmfahkaaGreat
open Go.RowKit Go.Proofs.Tryz
theorem yCb(g:G)(q:Nat):Old (fun _=>False) g ⟨g.w.drewN q,g.u,g.loc⟩:=
 ⟨rfl,rfl,rfl,⟨Nat.le_refl _,fun _ _=>Nat.le_refl _,fun _ _ _ _=>rfl,fun _ h=>h⟩,fun _ _ _=>⟨rfl,rfl⟩⟩
theorem Qna{g:G}{s:Str}{v:Value}(h:Rel g (.s s) v):v=.string (strB s):=ksa h
theorem Yla(s t:Str)(r:Str × Str × Bool)(hr:wqa s t=some r):Run prog 147 [.s s,.s t] (.tup [.s r.1,.s r.2.1,.bo r.2.2]):=by
 unfold wqa at hr;split at hr
 case isFalse=>cases hr
 rename_i hlen;cases hr;refine ⟨⟨_,_,⟨func147,rfl,by kernel_rfl⟩⟩,fun g vs hw hg ha=>?_⟩;obtain ⟨hsz,hrel⟩:=ha;obtain ⟨l⟩:=vs
 match l,hsz with
 | [x,y],_=>
  obtain rfl:=Qna (hrel 0 _ rfl);obtain rfl:=Qna (hrel 1 _ rfl);obtain ⟨_,_,m,hm⟩:=hg.1 (0,0) (by simp[globs]);refine callsIn_wide.2 ((Tryz.strings_Cut (strB s) (strB t) m g.w (by rw[kDa];exact hlen) hm).mono ?_);rintro e w' ⟨rfl,q,rfl⟩;refine ⟨⟨g.w.drewN q,g.u,g.loc⟩,_,rfl,rfl,yCb g q,hw,rfl,.tup rfl fun i c hi=>?_⟩
  match i,hi with
  | 0,rfl=>exact .pv (.b rfl)
  | 1,rfl=>exact .pv (.b rfl)
  | 2,rfl=>exact .pv (.b rfl)
theorem vVa(s:Str)(c:UInt8)(r:Int)(hr:kka s c=some r):Run prog 149 [.s s,.u8 c] (.i r):=by
 unfold kka at hr;cases hr;refine ⟨⟨_,_,⟨func149,rfl,by kernel_rfl⟩⟩,fun g vs hw hg ha=>?_⟩;obtain ⟨hsz,hrel⟩:=ha;obtain ⟨l⟩:=vs
 match l,hsz with
 | [x,y],_=>
  obtain rfl:=Qna (hrel 0 _ rfl);have e2:y=.int .u8 (c.toNat:Int):=ksa (hrel 1 _ rfl);subst e2;refine callsIn_wide.2 ((Tryz.strings_IndexByte (strB s) (c.toNat:Int) g.w).mono ?_);rintro e w' ⟨rfl,rfl⟩;refine ⟨g,_,rfl,rfl,Old.refl _ g,hw,rfl,?_⟩;simp[strB];exact .pv (.b rfl)
theorem KMa(s t:Str)(r:Bool)(hr:qca s t=some r):Run prog 123 [.s s,.s t] (.bo r):=by
 unfold qca at hr;split at hr
 case isFalse=>cases hr
 rename_i hlen;cases hr;refine ⟨⟨_,_,⟨func123,rfl,by kernel_rfl⟩⟩,fun g vs hw hg ha=>?_⟩;obtain ⟨hsz,hrel⟩:=ha;obtain ⟨l⟩:=vs
 match l,hsz with
 | [x,y],_=>
  obtain rfl:=Qna (hrel 0 _ rfl);obtain rfl:=Qna (hrel 1 _ rfl);obtain ⟨_,_,m,hm⟩:=hg.1 (0,0) (by simp[globs]);refine callsIn_wide.2 ((Tryz.strings_Contains (strB s) (strB t) m g.w (by rw[kDa];exact hlen) hm).mono ?_);rintro e w' ⟨rfl,rfl⟩;exact ⟨g,_,rfl,rfl,Old.refl _ g,hw,rfl,.pv (.b rfl)⟩
theorem wxa(a0:Str)(a1:Str)(r:Bool)(hr:kxa a0 a1=some r):Run prog 137 [.s a0,.s a1] (.bo r):=by
 unfold kxa at hr;refine rf (fn:=Tryz.f137) ⟨func137,rfl,by kernel_rfl⟩ rfl (fun _=>rfl) fun g0 hg=>?_
 refine rn tk 5 rfl<|jb hr (fun j1=>[(4,.bo j1)]) (fun j1=>[]) (fun j1 hr=>?_) (fun j1 hr=>?_)
 .refine rn tk 7 rfl<|bs 10 hr rfl (fun c2 hr=>?_) (fun c2 hr=>?_)
  .refine rn tk 3 rfl ?_;obtain ⟨v3,h4,hr⟩:=zaa hr;refine ug rfl rfl rfl<|wscH tk h4 rfl rfl rfl rfl<|rn tk 5 rfl ?_;cases hr;exact jn _ rfl rfl rfl
  refine rn tk 9 rfl ?_;cases hr;exact jn _ rfl rfl rfl
 refine rn tk 1 rfl ?_;cases hr;exact kr tk (.inr rfl) rfl rfl
theorem Koa(a0:Str)(a1:Str)(r:Bool)(hr:kYa a0 a1=some r):Run prog 121 [.s a0,.s a1] (.bo r):=by
 unfold kYa at hr;refine rf (fn:=f121) ⟨func121,rfl,by kernel_rfl⟩ rfl (fun _=>rfl) fun g0 hg=>?_
 refine rn tk 9 rfl ?_;obtain ⟨v1,h2,hr⟩:=zaa hr;refine cl (wxa _ _ _ h2) rfl rfl<|rn tk 4 rfl ?_;cases hr;exact kr tk (.inr rfl) rfl rfl
theorem wya(a0:Str)(a1:Str)(r:Bool)(hr:kya a0 a1=some r):Run prog 138 [.s a0,.s a1] (.bo r):=by
 unfold kya at hr;refine rf (fn:=f138) ⟨func138,rfl,by kernel_rfl⟩ rfl (fun _=>rfl) fun g0 hg=>?_
 refine rn tk 5 rfl<|jb hr (fun j1=>[(4,.bo j1)]) (fun j1=>[]) (fun j1 hr=>?_) (fun j1 hr=>?_)
 .refine rn tk 7 rfl<|bs 10 hr rfl (fun c2 hr=>?_) (fun c2 hr=>?_)
  .refine rn tk 6 rfl ?_;obtain ⟨v3,h4,hr⟩:=zaa hr;refine ug rfl rfl rfl<|wscL tk h4 rfl rfl rfl rfl<|rn tk 5 rfl ?_;cases hr;exact jn _ rfl rfl rfl
  refine rn tk 12 rfl ?_;cases hr;exact jn _ rfl rfl rfl
 refine rn tk 1 rfl ?_;cases hr;exact kr tk (.inr rfl) rfl rfl
theorem Kpa(a0:Str)(a1:Str)(r:Bool)(hr:kZa a0 a1=some r):Run prog 122 [.s a0,.s a1] (.bo r):=by
 unfold kZa at hr;refine rf (fn:=f122) ⟨func122,rfl,by kernel_rfl⟩ rfl (fun _=>rfl) fun g0 hg=>?_
 refine rn tk 9 rfl ?_;obtain ⟨v1,h2,hr⟩:=zaa hr;refine cl (wya _ _ _ h2) rfl rfl<|rn tk 4 rfl ?_;cases hr;exact kr tk (.inr rfl) rfl rfl
theorem jja(a0:Str)(r:Bool)(hr:q0a a0=some r):Run prog 86 [.s a0] (.bo r):=by
 unfold q0a at hr;refine rf (fn:=f86) ⟨func86,rfl,by kernel_rfl⟩ rfl (fun _=>rfl) fun g0 hg=>?_
 refine rn tk 10 rfl<|jb hr (fun j1=>[(2,.bo j1)]) (fun j1=>[]) (fun j1 hr=>?_) (fun j1 hr=>?_)
 .refine rn tk 4 rfl<|bs 6 hr rfl (fun c2 hr=>?_) (fun c2 hr=>?_)
  .refine rn tk 5 rfl<|bs 11 hr rfl (fun c3 hr=>?_) (fun c3 hr=>?_)
   .refine rn tk 2 rfl<|ug rfl rfl rfl<|ct hr (fun j4=>[(0,.s a0),(11,.bo true),(14,.bo j4)]) (fun j4=>[]) (fun j4 hr jump4=>?_) (fun j4 hr=>?_)
    .refine il (fn:=f120) (args:=[.s a0,.fn (.func 119) [] []]) 400000 499999 [(0,.s a0),(11,.bo true)] rfl ⟨func120,rfl,by kernel_rfl⟩ rfl rfl rfl fun T4 ds4=>?_
     refine rn tk 14 rfl<|al2 hr (fun s5=>[(0,.s a0),(1,.fn (.func 119) [] []),(7,.i ((a0.length:Int))),(8,.i s5)]) (fun s5=>[(499999,.sus g0.w.heap.size ds4),(400000,.hold (.s a0) (T4.getD 0 undef)),(400011,.hold (.bo true) (T4.getD 11 undef))]) (.exit 0) (fun b6=>[]) (fun b6=>[(499999,.sus g0.w.heap.size ds4),(400000,.hold (.s a0) (T4.getD 0 undef)),(400011,.hold (.bo true) (T4.getD 11 undef))]) .ret (fun b7=>[(4,.bo false)]) (fun b7=>[(499999,.sus g0.w.heap.size ds4),(400000,.hold (.s a0) (T4.getD 0 undef)),(400011,.hold (.bo true) (T4.getD 11 undef))]) rfl rfl (fun s5 x9 hr=>?_) (fun b6 hr=>?_) (fun b7 hr=>?_)
     .unfold qIa at hr;refine rn tk 6 rfl<|ac 9 hr rfl (fun c10 hr=>?_) (fun c10 hr=>?_)
      .refine rn tk 15 rfl ?_;obtain ⟨v11,h12,hr⟩:=zaa hr;refine ws tk h12 rfl rfl rfl rfl<|il (fn:=Tryz.f119) (args:=[.u8 v11]) 600000 699999 [(0,.s a0),(1,.fn (.func 119) [] []),(7,.i ((a0.length:Int))),(8,.i s5)] rfl ⟨func119,rfl,by kernel_rfl⟩ rfl rfl rfl fun T6 ds6=>?_
       refine rn tk 5 rfl<|jb hr (fun j13=>[(2,.bo j13)]) (fun j13=>[(699999,.sus g0.w.heap.size ds6),(600000,.hold (.s a0) (T6.getD 0 undef)),(600001,.hold (.fn (.func 119) [] []) (T6.getD 1 undef)),(600007,.hold (.i ((a0.length:Int))) (T6.getD 7 undef)),(600008,.hold (.i s5) (T6.getD 8 undef)),(499999,.sus g0.w.heap.size ds4),(400000,.hold (.s a0) (T4.getD 0 undef)),(400011,.hold (.bo true) (T4.getD 11 undef))]) (fun j13 hr=>?_) (fun j13 hr=>?_)
       .refine rn tk 4 rfl<|bs 5 hr rfl (fun c14 hr=>?_) (fun c14 hr=>?_)
        .refine rn tk 4 rfl<|bs 9 hr rfl (fun c15 hr=>?_) (fun c15 hr=>?_)
         .refine rn tk 17 rfl ?_;cases hr;exact jn _ rfl rfl rfl
         refine rn tk 3 rfl<|bs 12 hr rfl (fun c16 hr=>?_) (fun c16 hr=>?_)
         .refine rn tk 5 rfl<|bs 17 hr rfl (fun c17 hr=>?_) (fun c17 hr=>?_)
          .refine rn tk 9 rfl ?_;cases hr;exact jn _ rfl rfl rfl
          refine rn tk 4 rfl<|bs 21 hr rfl (fun c18 hr=>?_) (fun c18 hr=>?_)
          .refine rn tk 5 rfl ?_;cases hr;exact jn _ rfl rfl rfl
          refine rn tk 5 rfl ?_;cases hr;exact jn _ rfl rfl rfl
         refine rn tk 9 rfl<|bs 21 hr rfl (fun c19 hr=>?_) (fun c19 hr=>?_)
         .refine rn tk 5 rfl ?_;cases hr;exact jn _ rfl rfl rfl
         refine rn tk 5 rfl ?_;cases hr;exact jn _ rfl rfl rfl
        refine rn tk 7 rfl<|bs 12 hr rfl (fun c20 hr=>?_) (fun c20 hr=>?_)
        .refine rn tk 5 rfl<|bs 17 hr rfl (fun c21 hr=>?_) (fun c21 hr=>?_)
         .refine rn tk 9 rfl ?_;cases hr;exact jn _ rfl rfl rfl
         refine rn tk 4 rfl<|bs 21 hr rfl (fun c22 hr=>?_) (fun c22 hr=>?_)
         .refine rn tk 5 rfl ?_;cases hr;exact jn _ rfl rfl rfl
         refine rn tk 5 rfl ?_;cases hr;exact jn _ rfl rfl rfl
        refine rn tk 9 rfl<|bs 21 hr rfl (fun c23 hr=>?_) (fun c23 hr=>?_)
        .refine rn tk 5 rfl ?_;cases hr;exact jn _ rfl rfl rfl
        refine rn tk 5 rfl ?_;cases hr;exact jn _ rfl rfl rfl
       refine rn tk 1 rfl ?_;refine ie tk [.bo j13] [(0,.s a0),(1,.fn (.func 119) [] []),(7,.i ((a0.length:Int))),(8,.i s5)] [(499999,.sus g0.w.heap.size ds4),(400000,.hold (.s a0) (T4.getD 0 undef)),(400011,.hold (.bo true) (T4.getD 11 undef))] (.inr rfl) rfl rfl rfl rfl (hO ?_);refine rn tk 3 rfl<|ac 16 hr rfl (fun c24 hr=>?_) (fun c24 hr=>?_)
       .refine rn tk 8 rfl ?_;cases hr;exact ato rfl rfl rfl rfl
       refine rn tk 7 rfl ?_;cases hr;exact atc rfl rfl
      refine rn tk 2 rfl ?_;cases hr;exact ato rfl rfl rfl rfl
     .refine rn tk 8 rfl ?_;refine ie tk [.bo true] [(0,.s a0),(11,.bo true)] [] (.inr rfl) rfl rfl rfl rfl ?_;cases hr;exact jump4 _ _ rfl rfl
     refine rn tk 2 rfl ?_;refine ie tk [.bo false] [(0,.s a0),(11,.bo true)] [] (.inr rfl) rfl rfl rfl rfl ?_;cases hr;exact jump4 _ _ rfl rfl
    refine rn tk 2 rfl<|bs 16 hr rfl (fun c25 hr=>?_) (fun c25 hr=>?_)
    .refine rn tk 1 rfl ?_;obtain ⟨v26,h27,hr⟩:=zaa hr;refine ug rfl rfl rfl<|cl (Koa _ _ _ h27) rfl rfl<|rn tk 3 rfl<|bs 21 hr rfl (fun c28 hr=>?_) (fun c28 hr=>?_)
     .refine rn tk 1 rfl ?_;obtain ⟨v29,h30,hr⟩:=zaa hr;refine ug rfl rfl rfl<|cl (Kpa _ _ _ h30) rfl rfl<|rn tk 3 rfl<|bs 26 hr rfl (fun c31 hr=>?_) (fun c31 hr=>?_)
      .refine rn tk 1 rfl ?_;obtain ⟨v32,h33,hr⟩:=zaa hr;refine ug rfl rfl rfl<|cl (KMa _ _ _ h33) rfl rfl<|rn tk 4 rfl ?_;cases hr;exact jn _ rfl rfl rfl
      refine rn tk 6 rfl ?_;cases hr;exact jn _ rfl rfl rfl
     refine rn tk 11 rfl ?_;cases hr;exact jn _ rfl rfl rfl
    refine rn tk 16 rfl ?_;cases hr;exact jn _ rfl rfl rfl
   refine rn tk 21 rfl ?_;cases hr;exact jn _ rfl rfl rfl
  refine rn tk 26 rfl ?_;cases hr;exact jn _ rfl rfl rfl
 refine rn tk 1 rfl ?_;cases hr;exact kr tk (.inr rfl) rfl rfl
theorem jAa(a0:Str)(r:Str × Str × Bool)(hr:vsa a0=some r):Run prog 134 [.s a0] (.tup [.s r.1,.s r.2.1,.bo r.2.2]):=by
 unfold vsa at hr;refine rf (fn:=f134) ⟨func134,rfl,by kernel_rfl⟩ rfl (fun _=>rfl) fun g0 hg=>?_
 refine rn tk 10 rfl ?_;obtain ⟨v1,h2,hr⟩:=zaa hr;refine cl (Yla _ _ _ h2) rfl rfl<|rn tk 14 rfl<|jb hr (fun j3=>[(2,.s v1.1),(3,.s v1.2.1),(4,.bo j3)]) (fun j3=>[]) (fun j3 hr=>?_) (fun j3 hr=>?_)
 .refine rn tk 5 rfl<|bs 15 hr rfl (fun c4 hr=>?_) (fun c4 hr=>?_)
  .refine rn tk 4 rfl<|bs 19 hr rfl (fun c5 hr=>?_) (fun c5 hr=>?_)
   .refine rn tk 5 rfl<|bs 24 hr rfl (fun c6 hr=>?_) (fun c6 hr=>?_)
    .refine rn tk 2 rfl<|ug rfl rfl rfl<|ct hr (fun j7=>[(3,.s v1.2.1),(12,.s v1.1),(13,.s v1.2.1),(24,.bo true),(27,.bo j7)]) (fun j7=>[]) (fun j7 hr jump4=>?_) (fun j7 hr=>?_)
     .refine il (fn:=f120) (args:=[.s v1.1,.fn (.func 148) [] []]) 400000 499999 [(3,.s v1.2.1),(12,.s v1.1),(13,.s v1.2.1),(24,.bo true)] rfl ⟨func120,rfl,by kernel_rfl⟩ rfl rfl rfl fun T4 ds4=>?_
      refine rn tk 14 rfl<|al2 hr (fun s8=>[(0,.s v1.1),(1,.fn (.func 148) [] []),(7,.i ((v1.1.length:Int))),(8,.i s8)]) (fun s8=>[(499999,.sus g0.w.heap.size ds4),(400003,.hold (.s v1.2.1) (T4.getD 3 undef)),(400012,.hold (.s v1.1) (T4.getD 12 undef)),(400013,.hold (.s v1.2.1) (T4.getD 13 undef)),(400024,.hold (.bo true) (T4.getD 24 undef))]) (.exit 0) (fun b9=>[]) (fun b9=>[(499999,.sus g0.w.heap.size ds4),(400003,.hold (.s v1.2.1) (T4.getD 3 undef)),(400012,.hold (.s v1.1) (T4.getD 12 undef)),(400013,.hold (.s v1.2.1) (T4.getD 13 undef)),(400024,.hold (.bo true) (T4.getD 24 undef))]) .ret (fun b10=>[(4,.bo false)]) (fun b10=>[(499999,.sus g0.w.heap.size ds4),(400003,.hold (.s v1.2.1) (T4.getD 3 undef)),(400012,.hold (.s v1.1) (T4.getD 12 undef)),(400013,.hold (.s v1.2.1) (T4.getD 13 undef)),(400024,.hold (.bo true) (T4.getD 24 undef))]) rfl rfl (fun s8 x12 hr=>?_) (fun b9 hr=>?_) (fun b10 hr=>?_)
      .unfold q1a at hr;refine rn tk 6 rfl<|ac 9 hr rfl (fun c13 hr=>?_) (fun c13 hr=>?_)
       .refine rn tk 15 rfl ?_;obtain ⟨v14,h15,hr⟩:=zaa hr;refine ws tk h15 rfl rfl rfl rfl<|il (fn:=f148) (args:=[.u8 v14]) 600000 699999 [(0,.s v1.1),(1,.fn (.func 148) [] []),(7,.i ((v1.1.length:Int))),(8,.i s8)] rfl ⟨func148,rfl,by kernel_rfl⟩ rfl rfl rfl fun T6 ds6=>?_
        refine rn tk 5 rfl<|jb hr (fun j16=>[(2,.bo j16)]) (fun j16=>[(699999,.sus g0.w.heap.size ds6),(600000,.hold (.s v1.1) (T6.getD 0 undef)),(600001,.hold (.fn (.func 148) [] []) (T6.getD 1 undef)),(600007,.hold (.i ((v1.1.length:Int))) (T6.getD 7 undef)),(600008,.hold (.i s8) (T6.getD 8 undef)),(499999,.sus g0.w.heap.size ds4),(400003,.hold (.s v1.2.1) (T4.getD 3 undef)),(400012,.hold (.s v1.1) (T4.getD 12 undef)),(400013,.hold (.s v1.2.1) (T4.getD 13 undef)),(400024,.hold (.bo true) (T4.getD 24 undef))]) (fun j16 hr=>?_) (fun j16 hr=>?_)
        .refine rn tk 2 rfl ?_;obtain ⟨v17,h18,hr⟩:=zaa hr;refine cl (ZKa _ _ h18) rfl rfl<|rn tk 1 rfl<|bs 5 hr rfl (fun c19 hr=>?_) (fun c19 hr=>?_)
         .refine rn tk 6 rfl ?_;cases hr;exact jn _ rfl rfl rfl
         refine rn tk 1 rfl ?_;obtain ⟨v20,h21,hr⟩:=zaa hr;refine ug rfl rfl rfl<|cl (vVa _ _ _ h21) rfl rfl<|rn tk 4 rfl ?_;cases hr;exact jn _ rfl rfl rfl
        refine rn tk 1 rfl ?_;refine ie tk [.bo j16] [(0,.s v1.1),(1,.fn (.func 148) [] []),(7,.i ((v1.1.length:Int))),(8,.i s8)] [(499999,.sus g0.w.heap.size ds4),(400003,.hold (.s v1.2.1) (T4.getD 3 undef)),(400012,.hold (.s v1.1) (T4.getD 12 undef)),(400013,.hold (.s v1.2.1) (T4.getD 13 undef)),(400024,.hold (.bo true) (T4.getD 24 undef))] (.inr rfl) rfl rfl rfl rfl (hO ?_);refine rn tk 3 rfl<|ac 16 hr rfl (fun c22 hr=>?_) (fun c22 hr=>?_)
        .refine rn tk 8 rfl ?_;cases hr;exact ato rfl rfl rfl rfl
        refine rn tk 7 rfl ?_;cases hr;exact atc rfl rfl
       refine rn tk 2 rfl ?_;cases hr;exact ato rfl rfl rfl rfl
      .refine rn tk 8 rfl ?_;refine ie tk [.bo true] [(3,.s v1.2.1),(12,.s v1.1),(13,.s v1.2.1),(24,.bo true)] [] (.inr rfl) rfl rfl rfl rfl ?_;cases hr;exact jump4 _ _ rfl rfl
      refine rn tk 2 rfl ?_;refine ie tk [.bo false] [(3,.s v1.2.1),(12,.s v1.1),(13,.s v1.2.1),(24,.bo true)] [] (.inr rfl) rfl rfl rfl rfl ?_;cases hr;exact jump4 _ _ rfl rfl
     refine rn tk 2 rfl<|bs 29 hr rfl (fun c23 hr=>?_) (fun c23 hr=>?_)
     .refine rn tk 1 rfl ?_;obtain ⟨v24,h25,hr⟩:=zaa hr;refine ug rfl rfl rfl<|cl (jja _ _ h25) rfl rfl<|rn tk 5 rfl ?_;cases hr;exact jn _ rfl rfl rfl
     refine rn tk 7 rfl ?_;cases hr;exact jn _ rfl rfl rfl
    refine rn tk 12 rfl ?_;cases hr;exact jn _ rfl rfl rfl
   refine rn tk 17 rfl ?_;cases hr;exact jn _ rfl rfl rfl
  refine rn tk 21 rfl ?_;cases hr;exact jn _ rfl rfl rfl
 refine rn tk 1 rfl ?_;cases hr;exact kr tk (.inr rfl) rfl rfl
theorem yHa(a0:Str)(r:Bool)(hr:qya a0=some r):Run prog 124 [.s a0] (.bo r):=by
 unfold qya at hr;refine rf (fn:=f124) ⟨func124,rfl,by kernel_rfl⟩ rfl (fun _=>rfl) fun g0 hg=>?_
 refine rn tk 8 rfl ?_;obtain ⟨v1,h2,hr⟩:=zaa hr;refine cl (jAa _ _ h2) rfl rfl<|rn tk 16 rfl ?_;cases hr;exact kr tk (.inr rfl) rfl rfl
theorem Qoa(a0:Int)(r:Bool)(hr:vKa a0=some r):Run prog 142 [.i a0] (.bo r):=by
 unfold vKa at hr;refine rf (fn:=f142) ⟨func142,rfl,by kernel_rfl⟩ rfl (fun _=>rfl) fun g0 hg=>?_
 refine rn tk 5 rfl<|jb hr (fun j1=>[(2,.bo j1)]) (fun j1=>[]) (fun j1 hr=>?_) (fun j1 hr=>?_)
 .refine rn tk 4 rfl<|bs 5 hr rfl (fun c2 hr=>?_) (fun c2 hr=>?_)
  .refine rn tk 5 rfl ?_;cases hr;exact jn _ rfl rfl rfl
  refine rn tk 5 rfl ?_;cases hr;exact jn _ rfl rfl rfl
 refine rn tk 1 rfl ?_;cases hr;exact kr tk (.inr rfl) rfl rfl
theorem Zya(a0:List zba)(r:zqa)(hr:qqa a0=some r):Run prog 126 [.l zba.pc a0] (.agg [.i r.Code,.i r.Index]):=by
 unfold qqa at hr;refine rf (fn:=f126) ⟨func126,rfl,by kernel_rfl⟩ rfl (fun _=>rfl) fun g0 hg=>?_
 refine rn tk 9 rfl<|wn tk rfl rfl rfl<|rn tk 4 rfl<|al2 hr (fun s1=>[(0,.l zba.pc a0),(2,.ptr 2 0),(5,.l zba.pc a0),(6,.i ((a0.length:Int))),(7,.i s1)]) (fun s1=>[(2,.cells [.i 0,.i 0])]) (.exit 0) (fun b2=>[(2,.ptr 2 0)]) (fun b2=>[(2,.cells [.i 0,.i 0])]) .ret (fun b3=>[(2,.ptr 2 0)]) (fun b3=>[(2,.cells [.i b3.Code,.i b3.Index])]) rfl rfl (fun s1 x5 hr=>?_) (fun b2 hr=>?_) (fun b3 hr=>?_)
 .unfold qua at hr;refine rn tk 6 rfl<|ac 8 hr rfl (fun c6 hr=>?_) (fun c6 hr=>?_)
  .refine rn tk 7 rfl ?_;obtain ⟨v7,h8,hr⟩:=zaa hr;refine wi tk h8 rfl rfl rfl rfl rfl<|rn tk 11 rfl ?_;obtain ⟨v9,h10,hr⟩:=zaa hr;refine cl (yHa _ _ h10) rfl rfl<|rn tk 4 rfl<|ac 12 hr rfl (fun c11 hr=>?_) (fun c11 hr=>?_)
   .refine rn tk 3 rfl ?_;obtain ⟨v12,h13,hr⟩:=zaa hr;refine cl (zka _ _ _ h13) rfl rfl<|rn tk 7 rfl ?_;cases hr;exact ato rfl rfl rfl rfl
   refine rn tk 4 rfl ?_;obtain ⟨v14,h15,hr⟩:=zaa hr;refine cl (Qoa _ _ h15) rfl rfl<|rn tk 4 rfl<|ac 19 hr rfl (fun c16 hr=>?_) (fun c16 hr=>?_)
   .refine rn tk 3 rfl ?_;obtain ⟨v17,h18,hr⟩:=zaa hr;refine cl (zka _ _ _ h18) rfl rfl<|rn tk 7 rfl ?_;cases hr;exact ato rfl rfl rfl rfl
   refine rn tk 4 rfl ?_;obtain ⟨v19,h20,hr⟩:=zaa hr;refine wlH tk h20 rfl rfl rfl (fun _=>rfl) rfl<|rn tk 1 rfl<|il (fn:=Tryz.f143) (args:=[.l zba.pc v19,.fn (.func 144) [] [.ptr 4 0]]) 500000 599999 [(0,.l zba.pc a0),(2,.ptr 2 0),(3,.i s1),(5,.l zba.pc a0),(6,.i ((a0.length:Int))),(7,.i s1)] rfl ⟨func143,rfl,by kernel_rfl⟩ rfl rfl rfl fun T5 ds5=>?_
   refine rn tk 9 rfl<|ct hr (fun j21=>[(7,.i j21)]) (fun j21=>[(599999,.sus g0.w.heap.size ds5),(500000,.hold (.l zba.pc a0) (T5.getD 0 undef)),(500002,.hold (.ptr 2 0) (T5.getD 2 undef)),(500005,.hold (.l zba.pc a0) (T5.getD 5 undef)),(500006,.hold (.i ((a0.length:Int))) (T5.getD 6 undef)),(500007,.hold (.i s1) (T5.getD 7 undef)),(500003,.hold (.i s1) (T5.getD 3 undef)),(2,.cells [.i 0,.i 0])]) (fun j21 hr jump6=>?_) (fun j21 hr=>?_)
   .refine il (fn:=f151) (args:=[.l zba.pc v19,.fn (.func 144) [] [.ptr 4 0]]) 600000 699999 [] rfl ⟨func151,rfl,by kernel_rfl⟩ rfl rfl rfl fun T6 ds6=>?_
    refine rn tk 9 rfl<|wn tk rfl rfl rfl<|rn tk 4 rfl<|al2 hr (fun s22=>[(0,.l zba.pc v19),(1,.fn (.func 144) [] [.ptr 4 0]),(7,.i ((v19.length:Int))),(8,.i s22)]) (fun s22=>[(699999,.sus g0.w.heap.size ds6),(599999,.sus g0.w.heap.size ds5),(500000,.hold (.l zba.pc a0) (T5.getD 0 undef)),(500002,.hold (.ptr 2 0) (T5.getD 2 undef)),(500005,.hold (.l zba.pc a0) (T5.getD 5 undef)),(500006,.hold (.i ((a0.length:Int))) (T5.getD 6 undef)),(500007,.hold (.i s1) (T5.getD 7 undef)),(500003,.hold (.i s1) (T5.getD 3 undef)),(4,.cells [.s v7.Address,.i v7.Notify]),(2,.cells [.i 0,.i 0])]) (.exit 0) (fun b23=>[]) (fun b23=>[(699999,.sus g0.w.heap.size ds6),(599999,.sus g0.w.heap.size ds5),(500000,.hold (.l zba.pc a0) (T5.getD 0 undef)),(500002,.hold (.ptr 2 0) (T5.getD 2 undef)),(500005,.hold (.l zba.pc a0) (T5.getD 5 undef)),(500006,.hold (.i ((a0.length:Int))) (T5.getD 6 undef)),(500007,.hold (.i s1) (T5.getD 7 undef)),(500003,.hold (.i s1) (T5.getD 3 undef)),(2,.cells [.i 0,.i 0])]) .ret (fun b24=>[(4,.i b24)]) (fun b24=>[(699999,.sus g0.w.heap.size ds6),(599999,.sus g0.w.heap.size ds5),(500000,.hold (.l zba.pc a0) (T5.getD 0 undef)),(500002,.hold (.ptr 2 0) (T5.getD 2 undef)),(500005,.hold (.l zba.pc a0) (T5.getD 5 undef)),(500006,.hold (.i ((a0.length:Int))) (T5.getD 6 undef)),(500007,.hold (.i s1) (T5.getD 7 undef)),(500003,.hold (.i s1) (T5.getD 3 undef)),(2,.cells [.i 0,.i 0])]) rfl rfl (fun s22 x26 hr=>?_) (fun b23 hr=>?_) (fun b24 hr=>?_)
    .unfold kUa at hr;refine rn tk 6 rfl<|ac 9 hr rfl (fun c27 hr=>?_) (fun c27 hr=>?_)
     .refine rn tk 15 rfl ?_;obtain ⟨v28,h29,hr⟩:=zaa hr;refine wi tk h29 rfl rfl rfl rfl rfl<|rn tk 1 rfl<|il (fn:=Tryz.f144) (args:=[.agg [.s v28.Address,.i v28.Notify],.ptr 4 0]) 800000 899999 [(0,.l zba.pc v19),(1,.fn (.func 144) [] [.ptr 4 0]),(5,.i s22),(7,.i ((v19.length:Int))),(8,.i s22)] rfl ⟨func144,rfl,by kernel_rfl⟩ rfl rfl rfl fun T8 ds8=>?_
      refine rn tk 2 rfl<|wo (Kxa (k:=2) 1002 rfl rfl rfl rfl rfl) rfl<|rn tk 14 rfl ?_;refine ie tk [.bo ((v28.Address==v7.Address))] [(0,.l zba.pc v19),(1,.fn (.func 144) [] [.ptr 4 0]),(5,.i s22),(7,.i ((v19.length:Int))),(8,.i s22)] [(1002,.cells [.s v28.Address,.i v28.Notify]),(699999,.sus g0.w.heap.size ds6),(599999,.sus g0.w.heap.size ds5),(500000,.hold (.l zba.pc a0) (T5.getD 0 undef)),(500002,.hold (.ptr 2 0) (T5.getD 2 undef)),(500005,.hold (.l zba.pc a0) (T5.getD 5 undef)),(500006,.hold (.i ((a0.length:Int))) (T5.getD 6 undef)),(500007,.hold (.i s1) (T5.getD 7 undef)),(500003,.hold (.i s1) (T5.getD 3 undef)),(4,.cells [.s v7.Address,.i v7.Notify]),(2,.cells [.i 0,.i 0])] (.inr rfl) rfl rfl rfl rfl (hO ?_);refine rn tk 2 rfl<|ac 16 hr rfl (fun c30 hr=>?_) (fun c30 hr=>?_)
      .refine rn tk 9 rfl ?_;cases hr;exact ato rfl rfl rfl rfl
      refine rn tk 7 rfl ?_;cases hr;exact atc rfl rfl
     refine rn tk 2 rfl ?_;cases hr;exact ato rfl rfl rfl rfl
    .refine rn tk 8 rfl ?_;refine ie tk [.i ((-1))] [] [(599999,.sus g0.w.heap.size ds5),(500000,.hold (.l zba.pc a0) (T5.getD 0 undef)),(500002,.hold (.ptr 2 0) (T5.getD 2 undef)),(500005,.hold (.l zba.pc a0) (T5.getD 5 undef)),(500006,.hold (.i ((a0.length:Int))) (T5.getD 6 undef)),(500007,.hold (.i s1) (T5.getD 7 undef)),(500003,.hold (.i s1) (T5.getD 3 undef)),(2,.cells [.i 0,.i 0])] (.inr rfl) rfl rfl rfl rfl ?_;cases hr;exact jump6 _ _ rfl rfl
    refine rn tk 2 rfl ?_;refine ie tk [.i b24] [] [(599999,.sus g0.w.heap.size ds5),(500000,.hold (.l zba.pc a0) (T5.getD 0 undef)),(500002,.hold (.ptr 2 0) (T5.getD 2 undef)),(500005,.hold (.l zba.pc a0) (T5.getD 5 undef)),(500006,.hold (.i ((a0.length:Int))) (T5.getD 6 undef)),(500007,.hold (.i s1) (T5.getD 7 undef)),(500003,.hold (.i s1) (T5.getD 3 undef)),(2,.cells [.i 0,.i 0])] (.inr rfl) rfl rfl rfl rfl ?_;cases hr;exact jump6 _ _ rfl rfl
   refine rn tk 5 rfl ?_;refine ie tk [.bo (decide (0<=j21))] [(0,.l zba.pc a0),(2,.ptr 2 0),(3,.i s1),(5,.l zba.pc a0),(6,.i ((a0.length:Int))),(7,.i s1)] [(2,.cells [.i 0,.i 0])] (.inr rfl) rfl rfl rfl rfl (hO ?_);refine rn tk 3 rfl<|ac 26 hr rfl (fun c31 hr=>?_) (fun c31 hr=>?_)
   .refine rn tk 3 rfl ?_;obtain ⟨v32,h33,hr⟩:=zaa hr;refine cl (zka _ _ _ h33) rfl rfl<|rn tk 7 rfl ?_;cases hr;exact ato rfl rfl rfl rfl
   refine rn tk 8 rfl ?_;cases hr;exact atc rfl rfl
  refine rn tk 2 rfl ?_;cases hr;exact ato rfl rfl rfl rfl
 .refine rn tk 4 rfl ?_;obtain ⟨v34,h35,hr⟩:=zaa hr;refine cl (zWa _ h35) rfl rfl<|rn tk 4 rfl ?_;cases hr;exact kr tk (.inr rfl) rfl rfl
 refine rn tk 2 rfl ?_;cases hr;exact kr tk (.inr rfl) rfl rfl
theorem Kqa(a0:zGa)(r:zqa)(hr:q2a a0=some r):Run prog 88 [.agg [.s a0.From,.l zba.pc a0.To,.s a0.Id]] (.agg [.i r.Code,.i r.Index]):=by
 unfold q2a at hr;refine rf (fn:=f88) ⟨func88,rfl,by kernel_rfl⟩ rfl (fun _=>rfl) fun g0 hg=>?_
 refine rn tk 8 rfl<|jb hr (fun j1=>[(1,.ptr 1 0),(2,.ptr 2 0),(3,.bo j1)]) (fun j1=>[(2,.cells [.i 0,.i 0]),(1,.cells [.s a0.From,.l zba.pc a0.To,.s a0.Id])]) (fun j1 hr=>?_) (fun j1 hr=>?_)
 .refine rn tk 5 rfl<|bs 7 hr rfl (fun c2 hr=>?_) (fun c2 hr=>?_)
  .refine rn tk 2 rfl ?_;obtain ⟨v3,h4,hr⟩:=zaa hr;refine ug rfl rfl rfl<|cl (yHa _ _ h4) rfl rfl<|rn tk 4 rfl ?_;cases hr;exact jn _ rfl rfl rfl
  refine rn tk 7 rfl ?_;cases hr;exact jn _ rfl rfl rfl
 refine ac 3 hr rfl (fun c5 hr=>?_) (fun c5 hr=>?_)
 .refine rn tk 2 rfl ?_;obtain ⟨v6,h7,hr⟩:=zaa hr;refine cl (zka _ _ _ h7) rfl rfl<|rn tk 6 rfl ?_;cases hr;exact kr tk (.inr rfl) rfl rfl
 refine jb hr (fun j8=>[(1,.ptr 1 0),(2,.ptr 2 0),(14,.bo j8)]) (fun j8=>[(2,.cells [.i 0,.i 0]),(1,.cells [.s a0.From,.l zba.pc a0.To,.s a0.Id])]) (fun j8 hr=>?_) (fun j8 hr=>?_)
 .refine rn tk 3 rfl<|wn tk rfl rfl rfl<|rn tk 2 rfl<|bs 19 hr rfl (fun c9 hr=>?_) (fun c9 hr=>?_)
  .refine rn tk 7 rfl ?_;cases hr;exact jn _ rfl rfl rfl
  refine rn tk 2 rfl<|ug rfl rfl rfl<|wn tk rfl rfl rfl<|rn tk 4 rfl ?_;cases hr;exact jn _ rfl rfl rfl
 refine ac 14 hr rfl (fun c10 hr=>?_) (fun c10 hr=>?_)
 .refine rn tk 2 rfl ?_;obtain ⟨v11,h12,hr⟩:=zaa hr;refine cl (zka _ _ _ h12) rfl rfl<|rn tk 6 rfl ?_;cases hr;exact kr tk (.inr rfl) rfl rfl
 refine jb hr (fun j13=>[(1,.ptr 1 0),(2,.ptr 2 0),(26,.bo j13)]) (fun j13=>[(2,.cells [.i 0,.i 0]),(1,.cells [.s a0.From,.l zba.pc a0.To,.s a0.Id])]) (fun j13 hr=>?_) (fun j13 hr=>?_)
 .refine rn tk 5 rfl<|bs 30 hr rfl (fun c14 hr=>?_) (fun c14 hr=>?_)
  .refine rn tk 2 rfl ?_;obtain ⟨v15,h16,hr⟩:=zaa hr;refine ug rfl rfl rfl<|cl (YJa _ _ h16) rfl rfl<|rn tk 4 rfl ?_;cases hr;exact jn _ rfl rfl rfl
  refine rn tk 7 rfl ?_;cases hr;exact jn _ rfl rfl rfl
 refine ac 26 hr rfl (fun c17 hr=>?_) (fun c17 hr=>?_)
 .refine rn tk 2 rfl ?_;obtain ⟨v18,h19,hr⟩:=zaa hr;refine cl (zka _ _ _ h19) rfl rfl<|rn tk 6 rfl ?_;cases hr;exact kr tk (.inr rfl) rfl rfl
 refine rn tk 7 rfl ?_;obtain ⟨v20,h21,hr⟩:=zaa hr;refine cl (Zya _ _ h21) rfl rfl<|rn tk 4 rfl ?_;cases hr;exact kr tk (.inr rfl) rfl rfl
theorem zsb(a0:Str)(r:Bool)(hr:Z3a a0=some r):Run prog 152 [.s a0] (.bo r):=by
 unfold Z3a at hr;refine rf (fn:=Tryz.f152) ⟨func152,rfl,by kernel_rfl⟩ rfl (fun _=>rfl) fun g0 hg=>?_
 refine rn tk 5 rfl<|jb hr (fun j1=>[(2,.bo j1)]) (fun j1=>[]) (fun j1 hr=>?_) (fun j1 hr=>?_)
 .refine rn tk 4 rfl<|bs 5 hr rfl (fun c2 hr=>?_) (fun c2 hr=>?_)
  .refine rn tk 5 rfl<|bs 10 hr rfl (fun c3 hr=>?_) (fun c3 hr=>?_)
   .refine rn tk 1 rfl<|ug rfl rfl rfl<|ct hr (fun j4=>[(10,.bo true),(12,.bo j4)]) (fun j4=>[]) (fun j4 hr jump4=>?_) (fun j4 hr=>?_)
    .refine il (fn:=f120) (args:=[.s a0,.fn (.func 160) [] []]) 400000 499999 [(10,.bo true)] rfl ⟨func120,rfl,by kernel_rfl⟩ rfl rfl rfl fun T4 ds4=>?_
     refine rn tk 14 rfl<|al2 hr (fun s5=>[(0,.s a0),(1,.fn (.func 160) [] []),(7,.i ((a0.length:Int))),(8,.i s5)]) (fun s5=>[(499999,.sus g0.w.heap.size ds4),(400010,.hold (.bo true) (T4.getD 10 undef))]) (.exit 0) (fun b6=>[]) (fun b6=>[(499999,.sus g0.w.heap.size ds4),(400010,.hold (.bo true) (T4.getD 10 undef))]) .ret (fun b7=>[(4,.bo false)]) (fun b7=>[(499999,.sus g0.w.heap.size ds4),(400010,.hold (.bo true) (T4.getD 10 undef))]) rfl rfl (fun s5 x9 hr=>?_) (fun b6 hr=>?_) (fun b7 hr=>?_)
     .unfold yna at hr;refine rn tk 6 rfl<|ac 9 hr rfl (fun c10 hr=>?_) (fun c10 hr=>?_)
      .refine rn tk 15 rfl ?_;obtain ⟨v11,h12,hr⟩:=zaa hr;refine ws tk h12 rfl rfl rfl rfl<|il (fn:=f160) (args:=[.u8 v11]) 600000 699999 [(0,.s a0),(1,.fn (.func 160) [] []),(7,.i ((a0.length:Int))),(8,.i s5)] rfl ⟨func160,rfl,by kernel_rfl⟩ rfl rfl rfl fun T6 ds6=>?_
       refine rn tk 5 rfl<|jb hr (fun j13=>[(2,.bo j13)]) (fun j13=>[(699999,.sus g0.w.heap.size ds6),(600000,.hold (.s a0) (T6.getD 0 undef)),(600001,.hold (.fn (.func 160) [] []) (T6.getD 1 undef)),(600007,.hold (.i ((a0.length:Int))) (T6.getD 7 undef)),(600008,.hold (.i s5) (T6.getD 8 undef)),(499999,.sus g0.w.heap.size ds4),(400010,.hold (.bo true) (T4.getD 10 undef))]) (fun j13 hr=>?_) (fun j13 hr=>?_)
       .refine rn tk 4 rfl<|bs 5 hr rfl (fun c14 hr=>?_) (fun c14 hr=>?_)
        .refine rn tk 4 rfl<|bs 9 hr rfl (fun c15 hr=>?_) (fun c15 hr=>?_)
         .refine rn tk 5 rfl ?_;cases hr;exact jn _ rfl rfl rfl
         refine rn tk 5 rfl ?_;cases hr;exact jn _ rfl rfl rfl
        refine rn tk 9 rfl ?_;cases hr;exact jn _ rfl rfl rfl
       refine rn tk 1 rfl ?_;refine ie tk [.bo j13] [(0,.s a0),(1,.fn (.func 160) [] []),(7,.i ((a0.length:Int))),(8,.i s5)] [(499999,.sus g0.w.heap.size ds4),(400010,.hold (.bo true) (T4.getD 10 undef))] (.inr rfl) rfl rfl rfl rfl (hO ?_);refine rn tk 3 rfl<|ac 16 hr rfl (fun c16 hr=>?_) (fun c16 hr=>?_)
       .refine rn tk 8 rfl ?_;cases hr;exact ato rfl rfl rfl rfl
       refine rn tk 7 rfl ?_;cases hr;exact atc rfl rfl
      refine rn tk 2 rfl ?_;cases hr;exact ato rfl rfl rfl rfl
     .refine rn tk 8 rfl ?_;refine ie tk [.bo true] [(10,.bo true)] [] (.inr rfl) rfl rfl rfl rfl ?_;cases hr;exact jump4 _ _ rfl rfl
     refine rn tk 2 rfl ?_;refine ie tk [.bo false] [(10,.bo true)] [] (.inr rfl) rfl rfl rfl rfl ?_;cases hr;exact jump4 _ _ rfl rfl
    refine rn tk 3 rfl ?_;cases hr;exact jn _ rfl rfl rfl
   refine rn tk 5 rfl ?_;cases hr;exact jn _ rfl rfl rfl
  refine rn tk 10 rfl ?_;cases hr;exact jn _ rfl rfl rfl
 refine rn tk 1 rfl ?_;cases hr;exact kr tk (.inr rfl) rfl rfl
theorem wWa(a0:UInt8)(r:Bool)(hr:vLa a0=some r):Run prog 162 [.u8 a0] (.bo r):=by
 unfold vLa at hr;refine rf (fn:=f162) ⟨func162,rfl,by kernel_rfl⟩ rfl (fun _=>rfl) fun g0 hg=>?_
 refine rn tk 5 rfl<|jb hr (fun j1=>[(2,.bo j1)]) (fun j1=>[]) (fun j1 hr=>?_) (fun j1 hr=>?_)
 .refine rn tk 4 rfl<|bs 5 hr rfl (fun c2 hr=>?_) (fun c2 hr=>?_)
  .refine rn tk 5 rfl ?_;cases hr;exact jn _ rfl rfl rfl
  refine rn tk 5 rfl ?_;cases hr;exact jn _ rfl rfl rfl
 refine rn tk 1 rfl ?_;cases hr;exact kr tk (.inr rfl) rfl rfl
theorem YKa(a0:Str)(a1:Int)(r:Int)(hr:jTa a0 a1=some r):Run prog 154 [.s a0,.i a1] (.i r):=by
 unfold jTa at hr;refine rf (fn:=f154) ⟨func154,rfl,by kernel_rfl⟩ rfl (fun _=>rfl) fun g0 hg=>?_
 refine rn tk 14 rfl<|wq (ev_max rfl rfl) rfl rfl rfl<|rn tk 4 rfl<|al1 hr (fun s1=>[(0,.s a0),(5,.i s1.1),(6,.i s1.2)]) (fun s1=>[]) (.exit 0) (fun b2=>[(5,.i b2)]) (fun b2=>[]) rfl rfl (fun s1 x3 hr=>?_) (fun b2 hr=>?_)
 .unfold yJa at hr;refine rn tk 9 rfl<|ac 12 hr rfl (fun c4 hr=>?_) (fun c4 hr=>?_)
  .refine rn tk 2 rfl<|jk (fun j5=>[(0,.s a0),(5,.i j5),(6,.i s1.2)]) (fun j5=>[]) (fun j5=>vaa s1 j5=some x3) ?_ ?_
   .refine rn tk 2 rfl<|jb hr (fun j6=>[(0,.s a0),(5,.i s1.1),(6,.i s1.2),(26,.bo j6)]) (fun j6=>[]) (fun j6 hr=>?_) (fun j6 hr=>?_)
    .refine rn tk 3 rfl ?_;obtain ⟨v7,h8,hr⟩:=zaa hr;refine ws tk h8 rfl rfl rfl rfl ?_;obtain ⟨v9,h10,hr⟩:=zaa hr;refine cl (wWa _ _ h10) rfl rfl<|rn tk 2 rfl<|bs 20 hr rfl (fun c11 hr=>?_) (fun c11 hr=>?_)
     .refine rn tk 7 rfl ?_;cases hr;exact jn _ rfl rfl rfl
     refine rn tk 3 rfl ?_;obtain ⟨v12,h13,hr⟩:=zaa hr;refine ug rfl rfl rfl<|ws tk h13 rfl rfl rfl rfl ?_;obtain ⟨v14,h15,hr⟩:=zaa hr;refine ug rfl rfl rfl<|cl (wWa _ _ h15) rfl rfl<|rn tk 2 rfl ?_;cases hr;exact jn _ rfl rfl rfl
    refine ac 26 hr rfl (fun c16 hr=>?_) (fun c16 hr=>?_)
    .refine rn tk 3 rfl<|jn s1.1 hr rfl rfl
    refine rn tk 3 rfl<|jb hr (fun j17=>[(0,.s a0),(5,.i s1.1),(6,.i s1.2),(32,.bo j17)]) (fun j17=>[]) (fun j17 hr=>?_) (fun j17 hr=>?_)
    .refine rn tk 4 rfl<|bs 29 hr rfl (fun c18 hr=>?_) (fun c18 hr=>?_)
     .refine rn tk 4 rfl ?_;cases hr;exact jn _ rfl rfl rfl
     refine rn tk 4 rfl ?_;cases hr;exact jn _ rfl rfl rfl
    refine ac 32 hr rfl (fun c19 hr=>?_) (fun c19 hr=>?_)
    .refine rn tk 4 rfl ?_;cases hr;exact ato rfl rfl rfl rfl
    refine rn tk 7 rfl<|jn s1.2 hr rfl rfl
   intro j5 hr;unfold vaa at hr;refine rn tk 5 rfl ?_;cases hr;exact atc rfl rfl
  refine rn tk 2 rfl ?_;cases hr;exact ato rfl rfl rfl rfl
 refine rn tk 9 rfl ?_;cases hr;exact kr tk (.inr rfl) rfl rfl
theorem jpa(a0:Int)(r:Bool)(hr:kTa a0=some r):Run prog 171 [.pv (.b (.int .i32 a0))] (.bo r):=by
 unfold kTa at hr;refine rf (fn:=f171) ⟨func171,rfl,by kernel_rfl⟩ rfl (fun _=>rfl) fun g0 hg=>?_
 refine rn tk 7 rfl<|jb hr (fun j1=>[(0,.pv (.b (.int .i32 a0))),(3,.bo j1)]) (fun j1=>[]) (fun j1 hr=>?_) (fun j1 hr=>?_)
 .refine rn tk 4 rfl<|bs 6 hr rfl (fun c2 hr=>?_) (fun c2 hr=>?_)
  .refine rn tk 5 rfl ?_;cases hr;exact jn _ rfl rfl rfl
  refine rn tk 5 rfl ?_;cases hr;exact jn _ rfl rfl rfl
 refine ac 3 hr rfl (fun c3 hr=>?_) (fun c3 hr=>?_)
 .refine rn tk 8 rfl ?_;cases hr;exact kr tk (.inr rfl) rfl rfl
 refine jb hr (fun j4=>[(10,.bo j4)]) (fun j4=>[]) (fun j4 hr=>?_) (fun j4 hr=>?_)
 .refine rn tk 4 rfl<|bs 13 hr rfl (fun c5 hr=>?_) (fun c5 hr=>?_)
  .refine rn tk 5 rfl ?_;cases hr;exact jn _ rfl rfl rfl
  refine rn tk 5 rfl ?_;cases hr;exact jn _ rfl rfl rfl
 refine ac 10 hr rfl (fun c6 hr=>?_) (fun c6 hr=>?_)
 .refine rn tk 8 rfl ?_;cases hr;exact kr tk (.inr rfl) rfl rfl
 refine rn tk 9 rfl ?_;cases hr;exact kr tk (.inr rfl) rfl rfl
theorem yva(a0:Str)(a1:Int)(r:Int)(hr:kHa a0 a1=some r):Run prog 167 [.s a0,.pv (.b (.int .i32 a1))] (.i r):=by
 unfold kHa at hr;refine rf (fn:=f167) ⟨func167,rfl,by kernel_rfl⟩ rfl (fun _=>rfl) fun g0 hg=>?_
 refine rn tk 6 rfl<|jb hr (fun j1=>[(0,.s a0),(1,.pv (.b (.int .i32 a1))),(160,.bo j1)]) (fun j1=>[]) (fun j1 hr=>?_) (fun j1 hr=>?_)
 .refine rn tk 4 rfl<|bs 163 hr rfl (fun c2 hr=>?_) (fun c2 hr=>?_)
  .refine rn tk 5 rfl ?_;cases hr;exact jn _ rfl rfl rfl
  refine rn tk 5 rfl ?_;cases hr;exact jn _ rfl rfl rfl
 refine ac 160 hr rfl (fun c3 hr=>?_) (fun c3 hr=>?_)
 .refine rn tk 5 rfl ?_;obtain ⟨v4,h5,hr⟩:=zaa hr;refine cl (vVa _ _ _ h5) rfl rfl<|rn tk 5 rfl ?_;cases hr;exact kr tk (.inr rfl) rfl rfl
 refine rn tk 7 rfl<|ac 171 hr rfl (fun c6 hr=>?_) (fun c6 hr=>?_)
 .refine rn tk 4 rfl<|wr 1175 tk rfl rfl rfl rfl<|rn tk 3 rfl<|al2 hr (fun s7=>[(175,.ptr 1175 0)]) (fun s7=>[(1175,.it (strB a0) s7)]) (.exit 9) (fun b8=>[]) (fun b8=>[]) .ret (fun b9=>[(4,.i b9)]) (fun b9=>[]) rfl rfl (fun s7 x11 hr=>?_) (fun b8 hr=>?_) (fun b9 hr=>?_)
  .unfold qSa at hr;refine rn tk 2 rfl<|wnx hr rfl rfl rfl (fun c12 hr=>?_) (fun c12 hr=>?_)
   .refine rn tk 22 rfl<|ac 181 hr rfl (fun c13 hr=>?_) (fun c13 hr=>?_)
    .refine rn tk 8 rfl ?_;cases hr;exact ato rfl rfl rfl rfl
    refine rn tk 2 rfl ?_;cases hr;exact atc rfl rfl
   refine rn tk 7 rfl ?_;cases hr;exact ato rfl rfl rfl rfl
  .refine rn tk 9 rfl ?_;cases hr;exact kr tk (.inr rfl) rfl rfl
  refine rn tk 3 rfl ?_;cases hr;exact kr tk (.inr rfl) rfl rfl
 refine rn tk 3 rfl ?_;obtain ⟨v14,h15,hr⟩:=zaa hr;refine cl (jpa _ _ h15) rfl rfl<|rn tk 4 rfl<|ac 183 hr rfl (fun c16 hr=>?_) (fun c16 hr=>?_)
 .refine rn tk 7 rfl ?_;cases hr;exact kr tk (.inr rfl) rfl rfl
 refine rn tk 29 rfl<|al2 hr (fun s17=>[(0,.s a0),(7,.s ((yja a1))),(8,.i ((w64 ((((yja a1)).length:Int) - 1)))),(9,.i s17)]) (fun s17=>[]) (.exit 1) (fun b18=>[]) (fun b18=>[]) .ret (fun b19=>[(4,.i b19)]) (fun b19=>[]) rfl rfl (fun s17 x21 hr=>?_) (fun b18 hr=>?_) (fun b19 hr=>?_)
 .unfold qUa at hr;refine rn tk 9 rfl<|ac 26 hr rfl (fun c22 hr=>?_) (fun c22 hr=>?_)
  .refine rn tk 4 rfl<|jk (fun j23=>[(0,.s a0),(7,.s ((yja a1))),(8,.i j23.1),(9,.i j23.2)]) (fun j23=>[]) (fun j23=>qTa a0 a1 j23=some x21) ?_ ?_
   .refine rn tk 1 rfl ?_;obtain ⟨v24,h25,hr⟩:=zaa hr;obtain ⟨v26,h27,hr⟩:=zaa hr;refine dr 6 [(32,.u8 v26),(31,.i ((w64 ((((yja a1)).length:Int) - 1)))),(30,.s ((yja a1))),(29,.u8 v24),(28,.i s17),(27,.s a0)] mixed (by kernel_rfl) rfl rfl (pq tk rfl (.plain rfl) (pq tk rfl (.plain rfl) (.run (.plain rfl) (zta (Via rfl rfl z2a h25)) (pq tk rfl (.plain rfl) (pq tk rfl (.plain rfl) (.run (.plain rfl) (zta (Via rfl rfl z2a h27)) .nil)))))) rfl<|rn tk 3 rfl<|ac 33 hr rfl (fun c28 hr=>?_) (fun c28 hr=>?_)
    .refine rn tk 1 rfl ?_;obtain ⟨v29,h30,hr⟩:=zaa hr;obtain ⟨v31,h32,hr⟩:=zaa hr;refine dr 7 [(40,.u8 v31),(39,.i ((w64 ((((yja a1)).length:Int) - 1)))),(38,.s ((yja a1))),(37,.s v29),(36,.i ((w64 (s17+1)))),(35,.i s17),(34,.s a0)] mixed (by kernel_rfl) rfl rfl (pq tk rfl (.plain rfl) (pq tk rfl (.plain rfl) (pq tk rfl (.plain rfl) (.run (.plain rfl) (zta (qvb rfl rfl z2a h30)) (pq tk rfl (.plain rfl) (pq tk rfl (.plain rfl) (.run (.plain rfl) (zta (Via rfl rfl z2a h32)) .nil))))))) rfl ?_;obtain ⟨v33,h34,hr⟩:=zaa hr;refine cl (vVa _ _ _ h34) rfl rfl<|rn tk 10 rfl<|ac 43 hr rfl (fun c35 hr=>?_) (fun c35 hr=>?_)
     .refine rn tk 10 rfl ?_;cases hr;exact ato rfl rfl rfl rfl
     refine rn tk 9 rfl<|jn (((w64 ((((yja a1)).length:Int) - 1)),(w64 (s17+(w64 (v33+1)))))) hr rfl rfl
    refine rn tk 1 rfl<|jn (((w64 ((((yja a1)).length:Int) - 1)),s17)) hr rfl rfl
   intro j23 hr;unfold qTa at hr;refine rn tk 7 rfl<|al1 hr (fun s36=>[(0,.s a0),(7,.s ((yja a1))),(8,.i j23.1),(9,.i j23.2),(12,.i s36)]) (fun s36=>[]) (.exit 3) (fun b37=>[(8,.i j23.1),(9,.i j23.2)]) (fun b37=>[]) rfl rfl (fun s36 x38 hr=>?_) (fun b37 hr=>?_)
   .unfold yCa at hr;refine rn tk 9 rfl<|ac 51 hr rfl (fun c39 hr=>?_) (fun c39 hr=>?_)
    .refine rn tk 5 rfl ?_;obtain ⟨v40,h41,hr⟩:=zaa hr;obtain ⟨v42,h43,hr⟩:=zaa hr;refine dr 10 [(63,.u8 v42),(62,.i ((w64 (j23.1 - s36)))),(61,.i s36),(60,.i j23.1),(59,.s ((yja a1))),(58,.u8 v40),(57,.i ((w64 (j23.2 - s36)))),(56,.i s36),(55,.i j23.2),(54,.s a0)] mixed (by kernel_rfl) rfl rfl (pq tk rfl (.plain rfl) (pq tk rfl (.plain rfl) (pq tk rfl (.plain rfl) (pq tk rfl (.plain rfl) (.run (.plain rfl) (zta (Via rfl rfl z2a h41)) (pq tk rfl (.plain rfl) (pq tk rfl (.plain rfl) (pq tk rfl (.plain rfl) (pq tk rfl (.plain rfl) (.run (.plain rfl) (zta (Via rfl rfl z2a h43)) .nil)))))))))) rfl<|rn tk 3 rfl<|ac 64 hr rfl (fun c44 hr=>?_) (fun c44 hr=>?_)
     .cases hr
     refine rn tk 8 rfl ?_;cases hr;exact atc rfl rfl
    refine rn tk 2 rfl ?_;cases hr;exact ato rfl rfl rfl rfl
   refine rn tk 15 rfl ?_;cases hr;exact ato rfl rfl rfl rfl
  refine rn tk 2 rfl ?_;cases hr;exact ato rfl rfl rfl rfl
 .refine rn tk 12 rfl ?_;cases hr;exact kr tk (.inr rfl) rfl rfl
 refine rn tk 4 rfl ?_;cases hr;exact kr tk (.inr rfl) rfl rfl
theorem yBa(a0:Int)(r:Bool)(hr:z8a a0=some r):Run prog 168 [.i a0] (.bo r):=by
 unfold z8a at hr;refine rf (fn:=f168) ⟨func168,rfl,by kernel_rfl⟩ rfl (fun _=>rfl) fun g0 hg=>?_
 refine rn tk 13 rfl ?_;cases hr;exact kr tk (.inr rfl) rfl rfl
theorem Kra(a0:Str)(a1:Str)(r:Int)(hr:vZa a0 a1=some r):Run prog 166 [.s a0,.s a1] (.i r):=by
 unfold vZa at hr;refine rf (fn:=f166) ⟨func166,rfl,by kernel_rfl⟩ rfl (fun _=>rfl) fun g0 hg=>?_
 refine rn tk 12 rfl<|ac 12 hr rfl (fun c1 hr=>?_) (fun c1 hr=>?_)
 .refine rn tk 7 rfl ?_;cases hr;exact kr tk (.inr rfl) rfl rfl
 refine rn tk 10 rfl<|ac 15 hr rfl (fun c2 hr=>?_) (fun c2 hr=>?_)
 .refine rn tk 3 rfl ?_;obtain ⟨v3,h4,hr⟩:=zaa hr;refine ws tk h4 rfl rfl rfl rfl<|wur tk rfl rfl rfl<|rn tk 3 rfl<|jb hr (fun j5=>[(0,.s a0),(5,.pv (.b (.int .i32 j5)))]) (fun j5=>[]) (fun j5 hr=>?_) (fun j5 hr=>?_)
  .refine rn tk 6 rfl<|ac 20 hr rfl (fun c6 hr=>?_) (fun c6 hr=>?_)
   .refine rn tk 3 rfl ?_;cases hr;exact jn _ rfl rfl rfl
   refine rn tk 1 rfl ?_;cases hr;exact jn _ rfl rfl rfl
  refine rn tk 4 rfl ?_;obtain ⟨v7,h8,hr⟩:=zaa hr;refine cl (yva _ _ _ h8) rfl rfl<|rn tk 5 rfl ?_;cases hr;exact kr tk (.inr rfl) rfl rfl
 refine rn tk 7 rfl ?_;obtain ⟨v9,h10,hr⟩:=zaa hr;refine cl (yBa _ _ h10) rfl rfl<|rn tk 2 rfl<|ac 26 hr rfl (fun c11 hr=>?_) (fun c11 hr=>?_)
 .refine rn tk 3 rfl ?_;cases hr
 refine rn tk 6 rfl<|wr 1045 tk rfl rfl rfl rfl<|rn tk 3 rfl<|al2 hr (fun s12=>[(1,.s a1),(45,.ptr 1045 0)]) (fun s12=>[(1045,.it (strB a0) s12)]) (.exit 2) (fun b13=>[]) (fun b13=>[]) .ret (fun b14=>[(4,.i b14)]) (fun b14=>[]) rfl rfl (fun s12 x16 hr=>?_) (fun b13 hr=>?_) (fun b14 hr=>?_)
 .unfold qVa at hr;refine rn tk 2 rfl<|wnx hr rfl rfl rfl (fun c17 hr=>?_) (fun c17 hr=>?_)
  .refine rn tk 20 rfl ?_;obtain ⟨v18,h19,hr⟩:=zaa hr;refine cl (yva _ _ _ h19) rfl rfl<|rn tk 3 rfl<|ac 53 hr rfl (fun c20 hr=>?_) (fun c20 hr=>?_)
   .refine rn tk 8 rfl ?_;cases hr;exact ato rfl rfl rfl rfl
   refine rn tk 2 rfl ?_;cases hr;exact atc rfl rfl
  refine rn tk 7 rfl ?_;cases hr;exact ato rfl rfl rfl rfl
 .refine rn tk 8 rfl ?_;cases hr;exact kr tk (.inr rfl) rfl rfl
 refine rn tk 2 rfl ?_;cases hr;exact kr tk (.inr rfl) rfl rfl
theorem Jta(g:G)(vs:Array Value)(t:TypeId):Old (fun _=>False) g ⟨g.w.alloc (.cells vs t),fun k=>if k=g.w.heap.size then 0 else g.u k,g.loc⟩:=by
 have h:=ySa g vs t 0 0 (g.loc 0);have e:(g.alloc vs t 0 0 (g.loc 0))=⟨g.w.alloc (.cells vs t),fun k=>if k=g.w.heap.size then 0 else g.u k,g.loc⟩:=by
  unfold G.alloc
  congr 1
  funext k;split
  .rename_i hk;rw[hk]
  rfl
 rw[<-e];exact h
theorem kvb{g:G}(h:Wf g)(vs:Array Value)(t:TypeId):Wf ⟨g.w.alloc (.cells vs t),fun k=>if k=g.w.heap.size then 0 else g.u k,g.loc⟩:=by
 intro k hk;have hk:g.w.heap.size+1<=k:=by simpa using hk
 show (if k=g.w.heap.size then 0 else g.u k)=0;rw[if_neg (by omega)];exact h k (by omega)
theorem vUb{t:Str}(h:Jca t=true):∀(j:Nat) b,(strB t).data.toList[j]? =some b->b.toNat < 128:=fun j b hb=>Jha h (List.mem_of_getElem? hb)
theorem KNa(s t:Str)(r:Int)(hr:qxa s t=some r):Run prog 166 [.s s,.s t] (.i r):=by
 unfold qxa at hr;split at hr
 case isFalse=>cases hr
 rename_i hc;obtain ⟨h1,h2,h3,h4⟩:=hc;by_cases h8:s.length<=8
 .exact Kra s t r (by rw[kab s t h8 h3 h2 h4];exact hr)
 cases hr;refine ⟨⟨_,_,⟨func166,rfl,by kernel_rfl⟩⟩,fun g vs hw hg ha=>?_⟩;obtain ⟨hsz,hrel⟩:=ha;obtain ⟨l⟩:=vs
 match l,hsz with
 | [x,y],_=>
  obtain rfl:=Qna (hrel 0 _ rfl);obtain rfl:=Qna (hrel 1 _ rfl);have h116:(prog.info? 205).map (fun i=>(i.zero,i.size))=some (some (.agg (Array.replicate 256 (.bool false))),256):=by kernel_rfl
  have hz:=(zero_of_info h116).1;refine callsIn_wide.2 ((Tryz.strings_IndexAny_long hz (strB s) (strB t) g.w (by rw[kDa];exact h3) (by rw[kDa];omega) (by rw[kDa];exact h1) (by rw[kDa];exact h2) (vUb h4)).mono ?_);rintro e w' ⟨rfl,rfl⟩;have o1:=Jta g (Lib.setCells t) 205;have w1:=kvb hw (Lib.setCells t) 205;have o2:=Jta ⟨g.w.alloc (.cells (Lib.setCells t) 205),fun k=>if k=g.w.heap.size then 0 else g.u k,g.loc⟩ (Lib.setCells t) 205;have w2:=kvb w1 (Lib.setCells t) 205;have o3:Old (fun _=>False) g _:=o1.trans (o2.mono (S' :=fun b=>False∨g.w.heap.size<=b) (by intro b _ hf;exact hf.elim));exact ⟨⟨_,_,_⟩,_,rfl,(by rfl),o3,w2,(by rfl),.pv (.b rfl)⟩
theorem Zza(a0:Str)(a1:Str)(r:Bool)(hr:kFa a0 a1=some r):Run prog 165 [.s a0,.s a1] (.bo r):=by
 unfold kFa at hr;refine rf (fn:=f165) ⟨func165,rfl,by kernel_rfl⟩ rfl (fun _=>rfl) fun g0 hg=>?_
 refine rn tk 9 rfl ?_;obtain ⟨v1,h2,hr⟩:=zaa hr;refine cl (KNa _ _ _ h2) rfl rfl<|rn tk 5 rfl ?_;cases hr;exact kr tk (.inr rfl) rfl rfl
theorem ztb(a0:Str)(r:Bool)(hr:Z4a a0=some r):Run prog 161 [.s a0] (.bo r):=by
 unfold Z4a at hr;refine rf (fn:=f161) ⟨func161,rfl,by kernel_rfl⟩ rfl (fun _=>rfl) fun g0 hg=>?_
 refine rn tk 8 rfl ?_;obtain ⟨v1,h2,hr⟩:=zaa hr;refine cl (Zza _ _ _ h2) rfl rfl<|rn tk 4 rfl ?_;cases hr;exact kr tk (.inr rfl) rfl rfl
theorem YLa(a0:Str)(r:Bool)(hr:jSa a0=some r):Run prog 153 [.s a0] (.bo r):=by
 unfold jSa at hr;refine rf (fn:=Tryz.f153) ⟨func153,rfl,by kernel_rfl⟩ rfl (fun _=>rfl) fun g0 hg=>?_
 refine rn tk 5 rfl<|jb hr (fun j1=>[(2,.bo j1)]) (fun j1=>[]) (fun j1 hr=>?_) (fun j1 hr=>?_)
 .refine rn tk 2 rfl ?_;obtain ⟨v2,h3,hr⟩:=zaa hr;refine cl (ztb _ _ h3) rfl rfl<|rn tk 2 rfl<|bs 6 hr rfl (fun c4 hr=>?_) (fun c4 hr=>?_)
  .refine rn tk 3 rfl<|bs 9 hr rfl (fun c5 hr=>?_) (fun c5 hr=>?_)
   .refine rn tk 17 rfl ?_;cases hr;exact jn _ rfl rfl rfl
   refine rn tk 1 rfl ?_;obtain ⟨v6,h7,hr⟩:=zaa hr;refine ug rfl rfl rfl<|ws tk h7 rfl rfl rfl rfl ?_;obtain ⟨v8,h9,hr⟩:=zaa hr;refine ug rfl rfl rfl<|cl (wWa _ _ h9) rfl rfl<|rn tk 2 rfl<|bs 14 hr rfl (fun c10 hr=>?_) (fun c10 hr=>?_)
   .refine rn tk 4 rfl ?_;obtain ⟨v11,h12,hr⟩:=zaa hr;refine ug rfl rfl rfl<|ws tk h12 rfl rfl rfl rfl ?_;obtain ⟨v13,h14,hr⟩:=zaa hr;refine ug rfl rfl rfl<|cl (wWa _ _ h14) rfl rfl<|rn tk 6 rfl ?_;cases hr;exact jn _ rfl rfl rfl
   refine rn tk 12 rfl ?_;cases hr;exact jn _ rfl rfl rfl
  refine rn tk 20 rfl ?_;cases hr;exact jn _ rfl rfl rfl
 refine rn tk 1 rfl ?_;cases hr;exact kr tk (.inr rfl) rfl rfl
theorem Q8a(a0:Str)(a1:Str)(r:(List Str) × zqa)(hr:jUa a0 a1=some r):Run prog 145 [.s a0,.s a1] (.tup [.l cS r.1,.agg [.i r.2.Code,.i r.2.Index]]):=by
 unfold jUa at hr;refine rf (fn:=Tryz.f145) ⟨func145,rfl,by kernel_rfl⟩ rfl (fun _=>rfl) fun g0 hg=>?_
 refine rn tk 11 rfl ?_;obtain ⟨v1,h2,hr⟩:=zaa hr;refine cl (zsb _ _ h2) rfl rfl<|rn tk 4 rfl<|ac 12 hr rfl (fun c3 hr=>?_) (fun c3 hr=>?_)
 .refine rn tk 2 rfl ?_;obtain ⟨v4,h5,hr⟩:=zaa hr;refine cl (zka _ _ _ h5) rfl rfl<|rn tk 7 rfl ?_;cases hr;exact kr tk (.inr rfl) rfl rfl
 refine rn tk 8 rfl<|ac 17 hr rfl (fun c6 hr=>?_) (fun c6 hr=>?_)
 .refine rn tk 2 rfl ?_;obtain ⟨v7,h8,hr⟩:=zaa hr;refine cl (zka _ _ _ h8) rfl rfl<|rn tk 7 rfl ?_;cases hr;exact kr tk (.inr rfl) rfl rfl
 refine rn tk 3 rfl ?_;obtain ⟨v9,h10,hr⟩:=zaa hr;refine cl (YLa _ _ h10) rfl rfl<|rn tk 4 rfl<|ac 22 hr rfl (fun c11 hr=>?_) (fun c11 hr=>?_)
 .refine rn tk 2 rfl ?_;obtain ⟨v12,h13,hr⟩:=zaa hr;refine cl (zka _ _ _ h13) rfl rfl<|rn tk 7 rfl ?_;cases hr;exact kr tk (.inr rfl) rfl rfl
 refine rn tk 6 rfl ?_;obtain ⟨v14,h15,hr⟩:=zaa hr;refine wc h15 rfl rfl rfl<|rn tk 1 rfl ?_;obtain ⟨v16,h17,hr⟩:=zaa hr;refine wc h17 rfl rfl rfl<|rn tk 10 rfl ?_;refine qja 1008 (d:=8) 9 1 rfl rfl rfl (hO ?_);refine rn tk 4 rfl<|al1 hr (fun s18=>[(5,.ptr 5 0),(6,.s s18.1),(7,.i s18.2.1),(8,.hs 1008 0)]) (fun s18=>[(1008,.row 9 false 1 (List.map cS s18.2.2)),(5,.cells [.i 0,.i 0])]) (.exit 1) (fun b19=>[(5,.ptr 5 0),(6,.s b19.1),(8,.hs 1008 0)]) (fun b19=>[(1008,.row 9 false 1 (List.map cS b19.2)),(5,.cells [.i 0,.i 0])]) rfl rfl (fun s18 x20 hr=>?_) (fun b19 hr=>?_)
 .unfold yoa at hr;refine rn tk 8 rfl<|ac 36 hr rfl (fun c21 hr=>?_) (fun c21 hr=>?_)
  .refine rn tk 7 rfl ?_;obtain ⟨v22,h23,hr⟩:=zaa hr;refine cl (YKa _ _ _ h23) rfl rfl<|rn tk 10 rfl<|ac 41 hr rfl (fun c24 hr=>?_) (fun c24 hr=>?_)
   .refine rn tk 3 rfl ?_;cases hr;exact ato rfl rfl rfl rfl
   refine rn tk 7 rfl ?_;obtain ⟨v25,h26,hr⟩:=zaa hr;refine wscH tk h26 rfl rfl rfl rfl<|wz cS ([v25]:List Str) tk rfl rfl (fun _=>rfl) rfl rfl rfl ?_;obtain ⟨v27,h28,hr⟩:=zaa hr;refine wa tk h28 rfl rfl rfl rfl (fun _=>rfl) rfl rfl<|rn tk 6 rfl ?_;obtain ⟨v29,h30,hr⟩:=zaa hr;refine wscL tk h30 rfl rfl rfl rfl<|rn tk 4 rfl ?_;cases hr;exact atc rfl rfl
  refine rn tk 2 rfl ?_;cases hr;exact ato rfl rfl rfl rfl
 refine rn tk 6 rfl<|wz cS ([b19.1]:List Str) tk rfl rfl (fun _=>rfl) rfl rfl rfl ?_;obtain ⟨v31,h32,hr⟩:=zaa hr;refine wa tk h32 rfl rfl rfl rfl (fun _=>rfl) rfl rfl<|rn tk 7 rfl<|wnh tk rfl rfl rfl rfl<|rn tk 4 rfl ?_;refine vxa (d:=55) (F:=cS) (l:=v31) rfl rfl (hC ?_);refine al2 hr (fun s34=>[(5,.ptr 5 0),(8,.hs 1008 0),(55,.l cS v31),(56,.i ((v31.length:Int))),(57,.i s34)]) (fun s34=>[(1008,.row 9 false 1 (List.map cS v31)),(5,.cells [.i 0,.i 0])]) (.exit 3) (fun b35=>[(5,.ptr 5 0),(8,.hs 1008 0)]) (fun b35=>[(1008,.row 9 false 1 (List.map cS v31)),(5,.cells [.i 0,.i 0])]) .ret (fun b36=>[(4,.l cS b36.1),(5,.ptr 5 0)]) (fun b36=>[(5,.cells [.i b36.2.Code,.i b36.2.Index])]) rfl rfl (fun s34 x38 hr=>?_) (fun b35 hr=>?_) (fun b36 hr=>?_)
 .unfold jwa at hr;refine rn tk 6 rfl<|ac 58 hr rfl (fun c39 hr=>?_) (fun c39 hr=>?_)
  .refine rn tk 7 rfl ?_;obtain ⟨v40,h41,hr⟩:=zaa hr;refine wi tk h41 rfl rfl rfl rfl rfl<|rn tk 12 rfl<|ac 64 hr rfl (fun c42 hr=>?_) (fun c42 hr=>?_)
   .refine rn tk 3 rfl ?_;obtain ⟨v43,h44,hr⟩:=zaa hr;refine cl (zka _ _ _ h44) rfl rfl<|rn tk 7 rfl ?_;cases hr;exact ato rfl rfl rfl rfl
   refine rn tk 7 rfl ?_;cases hr;exact atc rfl rfl
  refine rn tk 2 rfl ?_;cases hr;exact ato rfl rfl rfl rfl
 .refine rn tk 5 rfl ?_;obtain ⟨v45,h46,hr⟩:=zaa hr;refine cl (zWa _ h46) rfl rfl<|rn tk 4 rfl ?_;refine vxa (d:=4) (F:=cS) (l:=v31) rfl rfl (hC ?_);refine rn tk 1 rfl ?_;cases hr;exact kr tk (.inr rfl) rfl rfl
 refine rn tk 2 rfl ?_;cases hr;exact kr tk (.inr rfl) rfl rfl
theorem Qpa(a0:List zea)(r:zqa)(hr:vMa a0=some r):Run prog 127 [.l zea.pc a0] (.agg [.i r.Code,.i r.Index]):=by
 unfold vMa at hr;refine rf (fn:=f127) ⟨func127,rfl,by kernel_rfl⟩ rfl (fun _=>rfl) fun g0 hg=>?_
 refine rn tk 9 rfl<|wn tk rfl rfl rfl<|rn tk 3 rfl<|ac 9 hr rfl (fun c1 hr=>?_) (fun c1 hr=>?_)
 .refine rn tk 2 rfl ?_;obtain ⟨v2,h3,hr⟩:=zaa hr;refine cl (zka _ _ _ h3) rfl rfl<|rn tk 5 rfl ?_;cases hr;exact kr tk (.inr rfl) rfl rfl
 refine rn tk 6 rfl<|wn tk rfl rfl rfl<|rn tk 4 rfl<|al2 hr (fun s4=>[(2,.ptr 2 0),(11,.l zea.pc a0),(12,.i ((a0.length:Int))),(13,.i s4)]) (fun s4=>[(2,.cells [.i 0,.i 0])]) (.exit 0) (fun b5=>[(2,.ptr 2 0)]) (fun b5=>[(2,.cells [.i 0,.i 0])]) .ret (fun b6=>[(2,.ptr 2 0)]) (fun b6=>[(2,.cells [.i b6.Code,.i b6.Index])]) rfl rfl (fun s4 x8 hr=>?_) (fun b5 hr=>?_) (fun b6 hr=>?_)
 .unfold vza at hr;refine rn tk 6 rfl<|ac 14 hr rfl (fun c9 hr=>?_) (fun c9 hr=>?_)
  .refine rn tk 7 rfl ?_;obtain ⟨v10,h11,hr⟩:=zaa hr;refine wi tk h11 rfl rfl rfl rfl rfl<|rn tk 12 rfl ?_;obtain ⟨v12,h13,hr⟩:=zaa hr;refine cl (Q8a _ _ _ h13) rfl rfl<|rn tk 11 rfl ?_;obtain ⟨v14,h15,hr⟩:=zaa hr;refine cl (zPa _ _ h15) rfl rfl<|rn tk 2 rfl<|ac 27 hr rfl (fun c16 hr=>?_) (fun c16 hr=>?_)
   .refine rn tk 5 rfl ?_;obtain ⟨v17,h18,hr⟩:=zaa hr;refine cl (zka _ _ _ h18) rfl rfl<|rn tk 6 rfl ?_;cases hr;exact ato rfl rfl rfl rfl
   refine rn tk 7 rfl ?_;cases hr;exact atc rfl rfl
  refine rn tk 2 rfl ?_;cases hr;exact ato rfl rfl rfl rfl
 .refine rn tk 4 rfl ?_;obtain ⟨v19,h20,hr⟩:=zaa hr;refine cl (zWa _ h20) rfl rfl<|rn tk 4 rfl ?_;cases hr;exact kr tk (.inr rfl) rfl rfl
 refine rn tk 2 rfl ?_;cases hr;exact kr tk (.inr rfl) rfl rfl
theorem YMa(a0:List UInt8)(r:Int)(hr:jVa a0=some r):Run prog 146 [.l cU a0] (.i r):=by
 unfold jVa at hr;refine rf (fn:=f146) ⟨func146,rfl,by kernel_rfl⟩ rfl (fun _=>rfl) fun g0 hg=>?_
 refine rn tk 17 rfl<|al2 hr (fun s1=>[(0,.l cU a0),(3,.i s1.1),(4,.i s1.2)]) (fun s1=>[]) (.exit 0) (fun b2=>[]) (fun b2=>[]) .ret (fun b3=>[(2,.i b3)]) (fun b3=>[]) rfl rfl (fun s1 x5 hr=>?_) (fun b2 hr=>?_) (fun b3 hr=>?_)
 .unfold v0a at hr;refine rn tk 5 rfl<|wn tk rfl rfl rfl<|rn tk 3 rfl<|ac 9 hr rfl (fun c6 hr=>?_) (fun c6 hr=>?_)
  .refine rn tk 2 rfl<|jk (fun j7=>[(0,.l cU a0),(3,.i j7.1),(4,.i j7.2)]) (fun j7=>[]) (fun j7=>wGa j7=some x5) ?_ ?_
   .refine rn tk 5 rfl ?_;obtain ⟨v8,h9,hr⟩:=zaa hr;refine wi tk h9 rfl rfl rfl rfl rfl<|rn tk 5 rfl<|jb hr (fun j10=>[(0,.l cU a0),(3,.i s1.1),(4,.i s1.2),(5,.u8 v8),(32,.bo j10)]) (fun j10=>[]) (fun j10 hr=>?_) (fun j10 hr=>?_)
    .refine rn tk 4 rfl<|bs 18 hr rfl (fun c11 hr=>?_) (fun c11 hr=>?_)
     .refine rn tk 3 rfl<|ug rfl rfl rfl<|wn tk rfl rfl rfl<|rn tk 3 rfl<|bs 25 hr rfl (fun c12 hr=>?_) (fun c12 hr=>?_)
      .refine rn tk 3 rfl ?_;obtain ⟨v13,h14,hr⟩:=zaa hr;refine ug rfl rfl rfl<|wi tk h14 rfl rfl rfl rfl rfl<|rn tk 4 rfl ?_;cases hr;exact jn _ rfl rfl rfl
      refine rn tk 8 rfl ?_;cases hr;exact jn _ rfl rfl rfl
     refine rn tk 15 rfl ?_;cases hr;exact jn _ rfl rfl rfl
    refine ac 32 hr rfl (fun c15 hr=>?_) (fun c15 hr=>?_)
    .refine rn tk 15 rfl<|jn ((0,(w64 (s1.2+1)))) hr rfl rfl
    refine rn tk 3 rfl<|jb hr (fun j16=>[(0,.l cU a0),(3,.i s1.1),(4,.i s1.2),(40,.bo j16)]) (fun j16=>[]) (fun j16 hr=>?_) (fun j16 hr=>?_)
    .refine rn tk 4 rfl<|bs 37 hr rfl (fun c17 hr=>?_) (fun c17 hr=>?_)
     .refine rn tk 4 rfl ?_;cases hr;exact jn _ rfl rfl rfl
     refine rn tk 4 rfl ?_;cases hr;exact jn _ rfl rfl rfl
    refine ac 40 hr rfl (fun c18 hr=>?_) (fun c18 hr=>?_)
    .refine rn tk 9 rfl ?_;cases hr;exact ato rfl rfl rfl rfl
    refine rn tk 15 rfl<|ac 44 hr rfl (fun c19 hr=>?_) (fun c19 hr=>?_)
    .refine rn tk 8 rfl ?_;cases hr;exact ato rfl rfl rfl rfl
    refine rn tk 2 rfl<|jn (((w64 (s1.1+1)),s1.2)) hr rfl rfl
   intro j7 hr;unfold wGa at hr;refine rn tk 5 rfl ?_;cases hr;exact atc rfl rfl
  refine rn tk 2 rfl ?_;cases hr;exact ato rfl rfl rfl rfl
 .refine rn tk 8 rfl ?_;cases hr;exact kr tk (.inr rfl) rfl rfl
 refine rn tk 2 rfl ?_;cases hr;exact kr tk (.inr rfl) rfl rfl
theorem V9a(a0:List UInt8)(r:zqa)(hr:ypa a0=some r):Run prog 129 [.l cU a0] (.agg [.i r.Code,.i r.Index]):=by
 unfold ypa at hr;refine rf (fn:=f129) ⟨func129,rfl,by kernel_rfl⟩ rfl (fun _=>rfl) fun g0 hg=>?_
 refine rn tk 9 rfl ?_;obtain ⟨v1,h2,hr⟩:=zaa hr;refine cl (YMa _ _ h2) rfl rfl<|rn tk 9 rfl<|ac 5 hr rfl (fun c3 hr=>?_) (fun c3 hr=>?_)
 .refine rn tk 2 rfl ?_;obtain ⟨v4,h5,hr⟩:=zaa hr;refine cl (zka _ _ _ h5) rfl rfl<|rn tk 6 rfl ?_;cases hr;exact kr tk (.inr rfl) rfl rfl
 refine rn tk 6 rfl<|ac 8 hr rfl (fun c6 hr=>?_) (fun c6 hr=>?_)
 .refine rn tk 2 rfl ?_;obtain ⟨v7,h8,hr⟩:=zaa hr;refine cl (zka _ _ _ h8) rfl rfl<|rn tk 6 rfl ?_;cases hr;exact kr tk (.inr rfl) rfl rfl
 refine rn tk 5 rfl ?_;obtain ⟨v9,h10,hr⟩:=zaa hr;refine cl (zWa _ h10) rfl rfl<|rn tk 4 rfl ?_;cases hr;exact kr tk (.inr rfl) rfl rfl
theorem VIa(a0:zxa)(r:List UInt8)(hr:wFa a0=some r):Run prog 128 [.agg [.l zea.pc a0.Fields,.l cU a0.Body]] (.l cU r):=by
 unfold wFa at hr;refine rf (fn:=f128) ⟨func128,rfl,by kernel_rfl⟩ rfl (fun _=>rfl) fun g0 hg=>?_
 refine rn tk 9 rfl ?_;refine qja 1003 (d:=3) 5 1 rfl rfl rfl (hO ?_);refine rn tk 7 rfl<|wn tk rfl rfl rfl<|rn tk 4 rfl<|al1 hr (fun s1=>[(1,.ptr 1 0),(3,.hs 1003 0),(11,.l zea.pc a0.Fields),(12,.i ((a0.Fields.length:Int))),(13,.i s1.1)]) (fun s1=>[(1003,.row 5 false 1 (List.map cU s1.2)),(1,.cells [.l zea.pc a0.Fields,.l cU a0.Body])]) (.exit 0) (fun b2=>[(1,.ptr 1 0),(3,.hs 1003 0)]) (fun b2=>[(1003,.row 5 false 1 (List.map cU b2)),(1,.cells [.l zea.pc a0.Fields,.l cU a0.Body])]) rfl rfl (fun s1 x3 hr=>?_) (fun b2 hr=>?_)
 .unfold vna at hr;refine rn tk 6 rfl<|ac 14 hr rfl (fun c4 hr=>?_) (fun c4 hr=>?_)
  .refine rn tk 6 rfl ?_;obtain ⟨v5,h6,hr⟩:=zaa hr;refine wi tk h6 rfl rfl rfl rfl rfl<|rn tk 11 rfl ?_;obtain ⟨v7,h8,hr⟩:=zaa hr;refine cl (Q8a _ _ _ h8) rfl rfl<|rn tk 11 rfl<|wn tk rfl rfl rfl<|rn tk 4 rfl<|al1 hr (fun s9=>[(1,.ptr 1 0),(3,.hs 1003 0),(11,.l zea.pc a0.Fields),(12,.i ((a0.Fields.length:Int))),(13,.i s1.1),(25,.l cS v7.1),(26,.i ((v7.1.length:Int))),(27,.i s9.1)]) (fun s9=>[(1003,.row 5 false 1 (List.map cU s9.2)),(1,.cells [.l zea.pc a0.Fields,.l cU a0.Body])]) (.exit 2) (fun b10=>[(1,.ptr 1 0),(3,.hs 1003 0),(11,.l zea.pc a0.Fields),(12,.i ((a0.Fields.length:Int))),(13,.i s1.1)]) (fun b10=>[(1003,.row 5 false 1 (List.map cU b10)),(1,.cells [.l zea.pc a0.Fields,.l cU a0.Body])]) rfl rfl (fun s9 x11 hr=>?_) (fun b10 hr=>?_)
   .unfold vma at hr;refine rn tk 6 rfl<|ac 28 hr rfl (fun c12 hr=>?_) (fun c12 hr=>?_)
    .refine rn tk 6 rfl ?_;obtain ⟨v13,h14,hr⟩:=zaa hr;refine wi tk h14 rfl rfl rfl rfl rfl<|rn tk 7 rfl ?_;obtain ⟨v15,h16,hr⟩:=zaa hr;refine wo (ZTa (k:=33) (l:=s9.2) (s:=v13) (lim:=140737488355328) rfl rfl rfl rfl zoa z2a.u zNa rfl h16) rfl<|wz cU ([(13:UInt8),(10:UInt8)]:List UInt8) tk rfl rfl (fun _=>rfl) rfl rfl rfl ?_;obtain ⟨v17,h18,hr⟩:=zaa hr;refine wa tk h18 rfl rfl rfl rfl (fun _=>rfl) rfl rfl<|rn tk 8 rfl ?_;cases hr;exact atc rfl rfl
    refine rn tk 2 rfl ?_;cases hr;exact ato rfl rfl rfl rfl
   refine rn tk 7 rfl ?_;cases hr;exact atc rfl rfl
  refine rn tk 2 rfl ?_;cases hr;exact ato rfl rfl rfl rfl
 refine rn tk 3 rfl ?_;obtain ⟨v19,h20,hr⟩:=zaa hr;obtain ⟨v21,h22,hr⟩:=zaa hr;refine kHb [([false,false,false,false,false,false,false],[(1,.ptr 1 0),(3,.hs 1003 0)],[(1003,.row 5 false 1 (List.map cU b2)),(1,.cells [.l zea.pc a0.Fields,.l cU a0.Body])]),([true,false,false,false,false,false,false],[(1,.ptr 1 0),(3,.hs 1003 0),(38,.hs 1003 0)],[(1003,.row 5 false 1 (List.map cU b2)),(1,.cells [.l zea.pc a0.Fields,.l cU a0.Body])]),([false,true,false,false,false,false,false],[(1,.ptr 1 0),(3,.hs 1003 0),(39,.l cU (([(13:UInt8),(10:UInt8)]:List UInt8)))],[(1003,.row 5 false 1 (List.map cU b2)),(1,.cells [.l zea.pc a0.Fields,.l cU a0.Body])]),([false,false,false,true,false,false,false],[(1,.ptr 1 0),(3,.hs 1003 0),(41,.ptr 1 1)],[(1003,.row 5 false 1 (List.map cU b2)),(1,.cells [.l zea.pc a0.Fields,.l cU a0.Body])]),([true,true,false,false,false,false,false],[(1,.ptr 1 0),(3,.hs 1003 0),(38,.hs 1003 0),(39,.l cU (([(13:UInt8),(10:UInt8)]:List UInt8)))],[(1003,.row 5 false 1 (List.map cU b2)),(1,.cells [.l zea.pc a0.Fields,.l cU a0.Body])]),([true,false,false,true,false,false,false],[(1,.ptr 1 0),(3,.hs 1003 0),(38,.hs 1003 0),(41,.ptr 1 1)],[(1003,.row 5 false 1 (List.map cU b2)),(1,.cells [.l zea.pc a0.Fields,.l cU a0.Body])]),([false,true,false,true,false,false,false],[(1,.ptr 1 0),(3,.hs 1003 0),(39,.l cU (([(13:UInt8),(10:UInt8)]:List UInt8))),(41,.ptr 1 1)],[(1003,.row 5 false 1 (List.map cU b2)),(1,.cells [.l zea.pc a0.Fields,.l cU a0.Body])]),([false,false,false,true,true,false,false],[(1,.ptr 1 0),(3,.hs 1003 0),(41,.ptr 1 1),(42,.l cU a0.Body)],[(1003,.row 5 false 1 (List.map cU b2)),(1,.cells [.l zea.pc a0.Fields,.l cU a0.Body])]),([true,true,true,false,false,false,false],[(1,.ptr 1 0),(39,.l cU (([(13:UInt8),(10:UInt8)]:List UInt8))),(40,.hs 1003 0)],[(1003,.row 5 false 1 (List.map cU v19)),(1,.cells [.l zea.pc a0.Fields,.l cU a0.Body])]),([true,true,false,true,false,false,false],[(1,.ptr 1 0),(3,.hs 1003 0),(38,.hs 1003 0),(39,.l cU (([(13:UInt8),(10:UInt8)]:List UInt8))),(41,.ptr 1 1)],[(1003,.row 5 false 1 (List.map cU b2)),(1,.cells [.l zea.pc a0.Fields,.l cU a0.Body])]),([true,false,false,true,true,false,false],[(1,.ptr 1 0),(3,.hs 1003 0),(38,.hs 1003 0),(41,.ptr 1 1),(42,.l cU a0.Body)],[(1003,.row 5 false 1 (List.map cU b2)),(1,.cells [.l zea.pc a0.Fields,.l cU a0.Body])]),([false,true,false,true,true,false,false],[(1,.ptr 1 0),(3,.hs 1003 0),(39,.l cU (([(13:UInt8),(10:UInt8)]:List UInt8))),(41,.ptr 1 1),(42,.l cU a0.Body)],[(1003,.row 5 false 1 (List.map cU b2)),(1,.cells [.l zea.pc a0.Fields,.l cU a0.Body])]),([true,true,true,true,false,false,false],[(1,.ptr 1 0),(39,.l cU (([(13:UInt8),(10:UInt8)]:List UInt8))),(40,.hs 1003 0),(41,.ptr 1 1)],[(1003,.row 5 false 1 (List.map cU v19)),(1,.cells [.l zea.pc a0.Fields,.l cU a0.Body])]),([true,true,false,true,true,false,false],[(1,.ptr 1 0),(3,.hs 1003 0),(38,.hs 1003 0),(39,.l cU (([(13:UInt8),(10:UInt8)]:List UInt8))),(41,.ptr 1 1),(42,.l cU a0.Body)],[(1003,.row 5 false 1 (List.map cU b2)),(1,.cells [.l zea.pc a0.Fields,.l cU a0.Body])]),([true,true,true,true,true,false,false],[(1,.ptr 1 0),(39,.l cU (([(13:UInt8),(10:UInt8)]:List UInt8))),(40,.hs 1003 0),(41,.ptr 1 1),(42,.l cU a0.Body)],[(1003,.row 5 false 1 (List.map cU v19)),(1,.cells [.l zea.pc a0.Fields,.l cU a0.Body])]),([true,true,true,true,true,true,false],[(1,.ptr 1 0),(39,.l cU (([(13:UInt8),(10:UInt8)]:List UInt8))),(41,.ptr 1 1),(42,.l cU a0.Body),(43,.hs 1003 0)],[(1003,.row 5 false 1 (List.map cU v21)),(1,.cells [.l zea.pc a0.Fields,.l cU a0.Body])]),([true,true,true,true,true,true,true],[(1,.ptr 1 0),(2,.hs 1003 0),(39,.l cU (([(13:UInt8),(10:UInt8)]:List UInt8))),(41,.ptr 1 1),(42,.l cU a0.Body),(43,.hs 1003 0)],[(1003,.row 5 false 1 (List.map cU v21)),(1,.cells [.l zea.pc a0.Fields,.l cU a0.Body])])] mixed (by kernel_rfl) rfl rfl (zga rfl (zga rfl z1a)) (zda rfl (zda rfl zna)) (.cons (.step [0,1,3] (by kernel_rfl) rfl (.cons (.yes 1 rfl (zBa rfl) (zKa (d:=38) rfl rfl kVa) rfl (zga rfl (zga rfl (zga rfl z1a))) (zda rfl (zda rfl zna))) (.cons (.yes 2 rfl (zBa rfl) (ZAa (d:=39) rfl rfl (yya (F:=cU) (l:=([(13:UInt8),(10:UInt8)]:List UInt8)) zoa zNa rfl (fun _=>rfl) rfl rfl)) rfl (zga rfl (zga rfl (zga rfl z1a))) (zda rfl (zda rfl zna))) (.cons (.yes 3 rfl (zBa rfl) (zKa (d:=41) rfl rfl (wra rfl vra.u rfl zoa rfl)) rfl (zga rfl (zga rfl (zga rfl z1a))) (zda rfl (zda rfl zna))) .nil)))) (.cons (.step [1,3] (by kernel_rfl) rfl (.cons (.yes 4 rfl (zBa rfl) (ZAa (d:=39) rfl rfl (yya (F:=cU) (l:=([(13:UInt8),(10:UInt8)]:List UInt8)) zoa zNa rfl (fun _=>rfl) rfl rfl)) rfl (zga rfl (zga rfl (zga rfl (zga rfl z1a)))) (zda rfl (zda rfl zna))) (.cons (.yes 5 rfl (zBa rfl) (zKa (d:=41) rfl rfl (wra rfl vra.u rfl zoa rfl)) rfl (zga rfl (zga rfl (zga rfl (zga rfl z1a)))) (zda rfl (zda rfl zna))) .nil))) (.cons (.step [0,3] (by kernel_rfl) rfl (.cons (.yes 4 rfl (zBa rfl) (zKa (d:=38) rfl rfl kVa) rfl (zga rfl (zga rfl (zga rfl (zga rfl z1a)))) (zda rfl (zda rfl zna))) (.cons (.yes 6 rfl (zBa rfl) (zKa (d:=41) rfl rfl (wra rfl vra.u rfl zoa rfl)) rfl (zga rfl (zga rfl (zga rfl (zga rfl z1a)))) (zda rfl (zda rfl zna))) .nil))) (.cons (.step [0,1,4] (by kernel_rfl) rfl (.cons (.yes 5 rfl (zBa rfl) (zKa (d:=38) rfl rfl kVa) rfl (zga rfl (zga rfl (zga rfl (zga rfl z1a)))) (zda rfl (zda rfl zna))) (.cons (.yes 6 rfl (zBa rfl) (ZAa (d:=39) rfl rfl (yya (F:=cU) (l:=([(13:UInt8),(10:UInt8)]:List UInt8)) zoa zNa rfl (fun _=>rfl) rfl rfl)) rfl (zga rfl (zga rfl (zga rfl (zga rfl z1a)))) (zda rfl (zda rfl zna))) (.cons (.yes 7 rfl (zBa rfl) (zKa (d:=42) rfl rfl (Vfa rfl rfl zoa rfl rfl)) rfl (zga rfl (zga rfl (zga rfl (zga rfl z1a)))) (zda rfl (zda rfl zna))) .nil)))) (.cons (.step [2,3] (by kernel_rfl) rfl (.cons (.yes 8 rfl (zBa rfl) (yZa (k:=40) (F:=cU) (l:=b2) (xs:=(([(13:UInt8),(10:UInt8)]:List UInt8))) (lim:=140737488355328) rfl rfl rfl rfl zoa zNa rfl rfl (fun _=>rfl) rfl h20) rfl (zga rfl (zga rfl (zga rfl z1a))) (zda rfl (zda rfl zna))) (.cons (.yes 9 rfl (zBa rfl) (zKa (d:=41) rfl rfl (wra rfl vra.u rfl zoa rfl)) rfl (zga rfl (zga rfl (zga rfl (zga rfl (zga rfl z1a))))) (zda rfl (zda rfl zna))) .nil))) (.cons (.step [1,4] (by kernel_rfl) rfl (.cons (.yes 9 rfl (zBa rfl) (ZAa (d:=39) rfl rfl (yya (F:=cU) (l:=([(13:UInt8),(10:UInt8)]:List UInt8)) zoa zNa rfl (fun _=>rfl) rfl rfl)) rfl (zga rfl (zga rfl (zga rfl (zga rfl (zga rfl z1a))))) (zda rfl (zda rfl zna))) (.cons (.yes 10 rfl (zBa rfl) (zKa (d:=42) rfl rfl (Vfa rfl rfl zoa rfl rfl)) rfl (zga rfl (zga rfl (zga rfl (zga rfl (zga rfl z1a))))) (zda rfl (zda rfl zna))) .nil))) (.cons (.step [0,4] (by kernel_rfl) rfl (.cons (.yes 9 rfl (zBa rfl) (zKa (d:=38) rfl rfl kVa) rfl (zga rfl (zga rfl (zga rfl (zga rfl (zga rfl z1a))))) (zda rfl (zda rfl zna))) (.cons (.yes 11 rfl (zBa rfl) (zKa (d:=42) rfl rfl (Vfa rfl rfl zoa rfl rfl)) rfl (zga rfl (zga rfl (zga rfl (zga rfl (zga rfl z1a))))) (zda rfl (zda rfl zna))) .nil))) (.cons (.step [0,1] (by kernel_rfl) rfl (.cons (.yes 10 rfl (zBa rfl) (zKa (d:=38) rfl rfl kVa) rfl (zga rfl (zga rfl (zga rfl (zga rfl (zga rfl z1a))))) (zda rfl (zda rfl zna))) (.cons (.yes 11 rfl (zBa rfl) (ZAa (d:=39) rfl rfl (yya (F:=cU) (l:=([(13:UInt8),(10:UInt8)]:List UInt8)) zoa zNa rfl (fun _=>rfl) rfl rfl)) rfl (zga rfl (zga rfl (zga rfl (zga rfl (zga rfl z1a))))) (zda rfl (zda rfl zna))) .nil))) (.cons (.step [3] (by kernel_rfl) rfl (.cons (.yes 12 rfl (zBa rfl) (zKa (d:=41) rfl rfl (wra rfl vra.u rfl zoa rfl)) rfl (zga rfl (zga rfl (zga rfl (zga rfl z1a)))) (zda rfl (zda rfl zna))) .nil)) (.cons (.step [2,4] (by kernel_rfl) rfl (.cons (.yes 12 rfl (zBa rfl) (yZa (k:=40) (F:=cU) (l:=b2) (xs:=(([(13:UInt8),(10:UInt8)]:List UInt8))) (lim:=140737488355328) rfl rfl rfl rfl zoa zNa rfl rfl (fun _=>rfl) rfl h20) rfl (zga rfl (zga rfl (zga rfl (zga rfl z1a)))) (zda rfl (zda rfl zna))) (.cons (.yes 13 rfl (zBa rfl) (zKa (d:=42) rfl rfl (Vfa rfl rfl zoa rfl rfl)) rfl (zga rfl (zga rfl (zga rfl (zga rfl (zga rfl (zga rfl z1a)))))) (zda rfl (zda rfl zna))) .nil))) (.cons (.step [1] (by kernel_rfl) rfl (.cons (.yes 13 rfl (zBa rfl) (ZAa (d:=39) rfl rfl (yya (F:=cU) (l:=([(13:UInt8),(10:UInt8)]:List UInt8)) zoa zNa rfl (fun _=>rfl) rfl rfl)) rfl (zga rfl (zga rfl (zga rfl (zga rfl (zga rfl (zga rfl z1a)))))) (zda rfl (zda rfl zna))) .nil)) (.cons (.step [0] (by kernel_rfl) rfl (.cons (.yes 13 rfl (zBa rfl) (zKa (d:=38) rfl rfl kVa) rfl (zga rfl (zga rfl (zga rfl (zga rfl (zga rfl (zga rfl z1a)))))) (zda rfl (zda rfl zna))) .nil)) (.cons (.step [4] (by kernel_rfl) rfl (.cons (.yes 14 rfl (zBa rfl) (zKa (d:=42) rfl rfl (Vfa rfl rfl zoa rfl rfl)) rfl (zga rfl (zga rfl (zga rfl (zga rfl (zga rfl z1a))))) (zda rfl (zda rfl zna))) .nil)) (.cons (.step [2] (by kernel_rfl) rfl (.cons (.yes 14 rfl (zBa rfl) (yZa (k:=40) (F:=cU) (l:=b2) (xs:=(([(13:UInt8),(10:UInt8)]:List UInt8))) (lim:=140737488355328) rfl rfl rfl rfl zoa zNa rfl rfl (fun _=>rfl) rfl h20) rfl (zga rfl (zga rfl (zga rfl (zga rfl (zga rfl z1a))))) (zda rfl (zda rfl zna))) .nil)) (.cons (.step [5] (by kernel_rfl) rfl (.cons (.yes 15 rfl (zBa rfl) (yZa (k:=43) (F:=cU) (l:=v19) (xs:=a0.Body) (lim:=140737488355328) rfl rfl rfl rfl zoa zNa rfl rfl (fun _=>rfl) rfl h22) rfl (zga rfl (zga rfl (zga rfl (zga rfl (zga rfl z1a))))) (zda rfl (zda rfl zna))) .nil)) (.cons (.step [6] (by kernel_rfl) rfl (.cons (.yes 16 rfl (zBa rfl) (zKa (d:=2) rfl rfl qAa) rfl (zga rfl (zga rfl (zga rfl (zga rfl (zga rfl (zga rfl z1a)))))) (zda rfl (zda rfl zna))) .nil)) (.cons (.full (by kernel_rfl) (hA ?_)) .nil)))))))))))))))));refine rn tk 1 rfl ?_;refine vxa (d:=2) (F:=cU) (l:=v21) rfl rfl (hC ?_);refine rn tk 1 rfl ?_;cases hr;exact kr tk (.inr rfl) rfl rfl
theorem KOa(a0:zxa)(r:zqa)(hr:voa a0=some r):Run prog 89 [.agg [.l zea.pc a0.Fields,.l cU a0.Body]] (.agg [.i r.Code,.i r.Index]):=by
 unfold voa at hr;refine rf (fn:=f89) ⟨func89,rfl,by kernel_rfl⟩ rfl (fun _=>rfl) fun g0 hg=>?_
 refine rn tk 11 rfl ?_;obtain ⟨v1,h2,hr⟩:=zaa hr;refine cl (Qpa _ _ h2) rfl rfl<|rn tk 7 rfl ?_;obtain ⟨v3,h4,hr⟩:=zaa hr;refine cl (zPa _ _ h4) rfl rfl<|rn tk 2 rfl<|ac 8 hr rfl (fun c5 hr=>?_) (fun c5 hr=>?_)
 .refine rn tk 8 rfl ?_;cases hr;exact kr tk (.inr rfl) rfl rfl
 refine rn tk 6 rfl ?_;obtain ⟨v6,h7,hr⟩:=zaa hr;refine cl (VIa _ _ h7) rfl rfl<|wn tk rfl rfl rfl<|rn tk 3 rfl<|ac 13 hr rfl (fun c8 hr=>?_) (fun c8 hr=>?_)
 .refine rn tk 2 rfl ?_;obtain ⟨v9,h10,hr⟩:=zaa hr;refine cl (zka _ _ _ h10) rfl rfl<|rn tk 5 rfl ?_;cases hr;exact kr tk (.inr rfl) rfl rfl
 refine rn tk 6 rfl ?_;obtain ⟨v11,h12,hr⟩:=zaa hr;refine cl (V9a _ _ h12) rfl rfl<|rn tk 4 rfl ?_;cases hr;exact kr tk (.inr rfl) rfl rfl
theorem wXa(a0:kca)(r:zqa)(hr:qQa a0=some r):Run prog 49 [.agg [.s a0.Envelope.From,.l zba.pc a0.Envelope.To,.s a0.Envelope.Id,.l zea.pc a0.Message.Fields,.l cU a0.Message.Body]] (.agg [.i r.Code,.i r.Index]):=by
 unfold qQa at hr;refine rf (fn:=f49) ⟨func49,rfl,by kernel_rfl⟩ rfl (fun _=>rfl) fun g0 hg=>?_
 refine rn tk 11 rfl ?_;obtain ⟨v1,h2,hr⟩:=zaa hr;refine cl (Kqa _ _ h2) rfl rfl<|rn tk 7 rfl ?_;obtain ⟨v3,h4,hr⟩:=zaa hr;refine cl (zPa _ _ h4) rfl rfl<|rn tk 2 rfl<|ac 9 hr rfl (fun c5 hr=>?_) (fun c5 hr=>?_)
 .refine rn tk 8 rfl ?_;cases hr;exact kr tk (.inr rfl) rfl rfl
 refine rn tk 7 rfl ?_;obtain ⟨v6,h7,hr⟩:=zaa hr;refine cl (KOa _ _ h7) rfl rfl<|rn tk 7 rfl ?_;obtain ⟨v8,h9,hr⟩:=zaa hr;refine cl (zPa _ _ h9) rfl rfl<|rn tk 2 rfl<|ac 15 hr rfl (fun c10 hr=>?_) (fun c10 hr=>?_)
 .refine rn tk 4 rfl ?_;obtain ⟨v11,h12,hr⟩:=zaa hr;refine cl (zka _ _ _ h12) rfl rfl<|rn tk 5 rfl ?_;cases hr;exact kr tk (.inr rfl) rfl rfl
 refine rn tk 4 rfl ?_;obtain ⟨v13,h14,hr⟩:=zaa hr;refine cl (zWa _ h14) rfl rfl<|rn tk 4 rfl ?_;cases hr;exact kr tk (.inr rfl) rfl rfl
theorem YNa(a0:zha)(r:zqa)(hr:j1a a0=some r):Run prog 48 [.agg [.i a0.Kind,.i a0.Now,.s a0.Mail.Envelope.From,.l zba.pc a0.Mail.Envelope.To,.s a0.Mail.Envelope.Id,.l zea.pc a0.Mail.Message.Fields,.l cU a0.Mail.Message.Body,.i a0.Attempt.Entry,.s a0.Attempt.Domain,.l cI a0.Attempt.To,.l cI a0.Results]] (.agg [.i r.Code,.i r.Index]):=by
 unfold j1a at hr;refine rf (fn:=f48) ⟨func48,rfl,by kernel_rfl⟩ rfl (fun _=>rfl) fun g0 hg=>?_
 refine rn tk 16 rfl<|jb hr (fun j1=>[(1,.ptr 1 0),(2,.ptr 2 0),(3,.ptr 3 0),(8,.bo j1)]) (fun j1=>[(3,.cells [.i a0.Attempt.Entry,.s a0.Attempt.Domain,.l cI a0.Attempt.To]),(2,.cells [.i 0,.i 0]),(1,.cells [.i a0.Kind,.i a0.Now,.s a0.Mail.Envelope.From,.l zba.pc a0.Mail.Envelope.To,.s a0.Mail.Envelope.Id,.l zea.pc a0.Mail.Message.Fields,.l cU a0.Mail.Message.Body,.i a0.Attempt.Entry,.s a0.Attempt.Domain,.l cI a0.Attempt.To,.l cI a0.Results])]) (fun j1 hr=>?_) (fun j1 hr=>?_)
 .refine rn tk 5 rfl<|bs 12 hr rfl (fun c2 hr=>?_) (fun c2 hr=>?_)
  .refine rn tk 6 rfl ?_;cases hr;exact jn _ rfl rfl rfl
  refine rn tk 6 rfl ?_;cases hr;exact jn _ rfl rfl rfl
 refine ac 8 hr rfl (fun c3 hr=>?_) (fun c3 hr=>?_)
 .refine rn tk 2 rfl ?_;obtain ⟨v4,h5,hr⟩:=zaa hr;refine cl (zka _ _ _ h5) rfl rfl<|rn tk 6 rfl ?_;cases hr;exact kr tk (.inr rfl) rfl rfl
 refine rn tk 4 rfl ?_;obtain ⟨v6,h7,hr⟩:=zaa hr;refine cl (jja _ _ h7) rfl rfl<|rn tk 4 rfl<|ac 18 hr rfl (fun c8 hr=>?_) (fun c8 hr=>?_)
 .refine rn tk 2 rfl ?_;obtain ⟨v9,h10,hr⟩:=zaa hr;refine cl (zka _ _ _ h10) rfl rfl<|rn tk 6 rfl ?_;cases hr;exact kr tk (.inr rfl) rfl rfl
 refine jb hr (fun j11=>[(1,.ptr 1 0),(2,.ptr 2 0),(3,.ptr 3 0),(24,.bo j11)]) (fun j11=>[(3,.cells [.i a0.Attempt.Entry,.s a0.Attempt.Domain,.l cI a0.Attempt.To]),(2,.cells [.i 0,.i 0]),(1,.cells [.i a0.Kind,.i a0.Now,.s a0.Mail.Envelope.From,.l zba.pc a0.Mail.Envelope.To,.s a0.Mail.Envelope.Id,.l zea.pc a0.Mail.Message.Fields,.l cU a0.Mail.Message.Body,.i a0.Attempt.Entry,.s a0.Attempt.Domain,.l cI a0.Attempt.To,.l cI a0.Results])]) (fun j11 hr=>?_) (fun j11 hr=>?_)
 .refine rn tk 3 rfl<|wn tk rfl rfl rfl<|rn tk 2 rfl<|bs 29 hr rfl (fun c12 hr=>?_) (fun c12 hr=>?_)
  .refine rn tk 7 rfl ?_;cases hr;exact jn _ rfl rfl rfl
  refine rn tk 2 rfl<|ug rfl rfl rfl<|wn tk rfl rfl rfl<|rn tk 4 rfl ?_;cases hr;exact jn _ rfl rfl rfl
 refine ac 24 hr rfl (fun c13 hr=>?_) (fun c13 hr=>?_)
 .refine rn tk 2 rfl ?_;obtain ⟨v14,h15,hr⟩:=zaa hr;refine cl (zka _ _ _ h15) rfl rfl<|rn tk 6 rfl ?_;cases hr;exact kr tk (.inr rfl) rfl rfl
 refine rn tk 8 rfl<|wn tk rfl rfl rfl<|rn tk 4 rfl<|al2 hr (fun s16=>[(1,.ptr 1 0),(2,.ptr 2 0),(3,.ptr 3 0),(37,.l cI a0.Attempt.To),(38,.i ((a0.Attempt.To.length:Int))),(39,.i s16)]) (fun s16=>[(3,.cells [.i a0.Attempt.Entry,.s a0.Attempt.Domain,.l cI a0.Attempt.To]),(2,.cells [.i 0,.i 0]),(1,.cells [.i a0.Kind,.i a0.Now,.s a0.Mail.Envelope.From,.l zba.pc a0.Mail.Envelope.To,.s a0.Mail.Envelope.Id,.l zea.pc a0.Mail.Message.Fields,.l cU a0.Mail.Message.Body,.i a0.Attempt.Entry,.s a0.Attempt.Domain,.l cI a0.Attempt.To,.l cI a0.Results])]) (.exit 1) (fun b17=>[(1,.ptr 1 0),(2,.ptr 2 0),(3,.ptr 3 0)]) (fun b17=>[(3,.cells [.i a0.Attempt.Entry,.s a0.Attempt.Domain,.l cI a0.Attempt.To]),(2,.cells [.i 0,.i 0]),(1,.cells [.i a0.Kind,.i a0.Now,.s a0.Mail.Envelope.From,.l zba.pc a0.Mail.Envelope.To,.s a0.Mail.Envelope.Id,.l zea.pc a0.Mail.Message.Fields,.l cU a0.Mail.Message.Body,.i a0.Attempt.Entry,.s a0.Attempt.Domain,.l cI a0.Attempt.To,.l cI a0.Results])]) .ret (fun b18=>[(2,.ptr 2 0)]) (fun b18=>[(2,.cells [.i b18.Code,.i b18.Index])]) rfl rfl (fun s16 x20 hr=>?_) (fun b17 hr=>?_) (fun b18 hr=>?_)
 .unfold vda at hr;refine rn tk 6 rfl<|ac 40 hr rfl (fun c21 hr=>?_) (fun c21 hr=>?_)
  .refine rn tk 7 rfl ?_;obtain ⟨v22,h23,hr⟩:=zaa hr;refine wi tk h23 rfl rfl rfl rfl rfl<|rn tk 5 rfl<|jb hr (fun j24=>[(1,.ptr 1 0),(2,.ptr 2 0),(3,.ptr 3 0),(37,.l cI a0.Attempt.To),(38,.i ((a0.Attempt.To.length:Int))),(39,.i s16),(63,.bo j24)]) (fun j24=>[(3,.cells [.i a0.Attempt.Entry,.s a0.Attempt.Domain,.l cI a0.Attempt.To]),(2,.cells [.i 0,.i 0]),(1,.cells [.i a0.Kind,.i a0.Now,.s a0.Mail.Envelope.From,.l zba.pc a0.Mail.Envelope.To,.s a0.Mail.Envelope.Id,.l zea.pc a0.Mail.Message.Fields,.l cU a0.Mail.Message.Body,.i a0.Attempt.Entry,.s a0.Attempt.Domain,.l cI a0.Attempt.To,.l cI a0.Results])]) (fun j24 hr=>?_) (fun j24 hr=>?_)
   .refine rn tk 4 rfl<|bs 46 hr rfl (fun c25 hr=>?_) (fun c25 hr=>?_)
    .refine rn tk 18 rfl ?_;cases hr;exact jn _ rfl rfl rfl
    refine rn tk 4 rfl<|bs 50 hr rfl (fun c26 hr=>?_) (fun c26 hr=>?_)
    .refine rn tk 14 rfl ?_;cases hr;exact jn _ rfl rfl rfl
    refine rn tk 3 rfl<|bs 53 hr rfl (fun c27 hr=>?_) (fun c27 hr=>?_)
    .refine rn tk 5 rfl ?_;obtain ⟨v28,h29,hr⟩:=zaa hr;refine ug rfl rfl rfl<|wi tk h29 rfl rfl rfl rfl rfl<|rn tk 5 rfl ?_;cases hr;exact jn _ rfl rfl rfl
    refine rn tk 11 rfl ?_;cases hr;exact jn _ rfl rfl rfl
   refine ac 63 hr rfl (fun c30 hr=>?_) (fun c30 hr=>?_)
   .refine rn tk 2 rfl ?_;obtain ⟨v31,h32,hr⟩:=zaa hr;refine cl (zka _ _ _ h32) rfl rfl<|rn tk 6 rfl ?_;cases hr;exact ato rfl rfl rfl rfl
   refine rn tk 7 rfl ?_;cases hr;exact atc rfl rfl
  refine rn tk 2 rfl ?_;cases hr;exact ato rfl rfl rfl rfl
 .refine rn tk 7 rfl<|wn tk rfl rfl rfl<|rn tk 2 rfl<|wn tk rfl rfl rfl<|rn tk 3 rfl<|ac 72 hr rfl (fun c33 hr=>?_) (fun c33 hr=>?_)
  .refine rn tk 2 rfl ?_;obtain ⟨v34,h35,hr⟩:=zaa hr;refine cl (zka _ _ _ h35) rfl rfl<|rn tk 5 rfl ?_;cases hr;exact kr tk (.inr rfl) rfl rfl
  refine rn tk 7 rfl<|il (fn:=f72) (args:=[.l cI a0.Results,.fn (.func 87) [] []]) 100000 199999 [(2,.ptr 2 0)] rfl ⟨func72,rfl,by kernel_rfl⟩ rfl rfl rfl fun T1 ds1=>?_
  refine rn tk 9 rfl<|ct hr (fun j36=>[(7,.i j36)]) (fun j36=>[(199999,.sus g0.w.heap.size ds1),(100002,.hold (.ptr 2 0) (T1.getD 2 undef)),(2,.cells [.i 0,.i 0])]) (fun j36 hr jump2=>?_) (fun j36 hr=>?_)
  .refine il (fn:=f114) (args:=[.l cI a0.Results,.fn (.func 87) [] []]) 200000 299999 [] rfl ⟨func114,rfl,by kernel_rfl⟩ rfl rfl rfl fun T2 ds2=>?_
   refine rn tk 9 rfl<|wn tk rfl rfl rfl<|rn tk 4 rfl<|al2 hr (fun s37=>[(0,.l cI a0.Results),(1,.fn (.func 87) [] []),(7,.i ((a0.Results.length:Int))),(8,.i s37)]) (fun s37=>[(299999,.sus g0.w.heap.size ds2),(199999,.sus g0.w.heap.size ds1),(100002,.hold (.ptr 2 0) (T1.getD 2 undef)),(2,.cells [.i 0,.i 0])]) (.exit 0) (fun b38=>[]) (fun b38=>[(299999,.sus g0.w.heap.size ds2),(199999,.sus g0.w.heap.size ds1),(100002,.hold (.ptr 2 0) (T1.getD 2 undef)),(2,.cells [.i 0,.i 0])]) .ret (fun b39=>[(4,.i b39)]) (fun b39=>[(299999,.sus g0.w.heap.size ds2),(199999,.sus g0.w.heap.size ds1),(100002,.hold (.ptr 2 0) (T1.getD 2 undef)),(2,.cells [.i 0,.i 0])]) rfl rfl (fun s37 x41 hr=>?_) (fun b38 hr=>?_) (fun b39 hr=>?_)
   .unfold wMa at hr;refine rn tk 6 rfl<|ac 9 hr rfl (fun c42 hr=>?_) (fun c42 hr=>?_)
    .refine rn tk 15 rfl ?_;obtain ⟨v43,h44,hr⟩:=zaa hr;refine wi tk h44 rfl rfl rfl rfl rfl<|rn tk 1 rfl<|il (fn:=f87) (args:=[.i v43]) 400000 499999 [(0,.l cI a0.Results),(1,.fn (.func 87) [] []),(5,.i s37),(7,.i ((a0.Results.length:Int))),(8,.i s37)] rfl ⟨func87,rfl,by kernel_rfl⟩ rfl rfl rfl fun T4 ds4=>?_
     refine rn tk 5 rfl<|jb hr (fun j45=>[(2,.bo j45)]) (fun j45=>[(499999,.sus g0.w.heap.size ds4),(400000,.hold (.l cI a0.Results) (T4.getD 0 undef)),(400001,.hold (.fn (.func 87) [] []) (T4.getD 1 undef)),(400007,.hold (.i ((a0.Results.length:Int))) (T4.getD 7 undef)),(400008,.hold (.i s37) (T4.getD 8 undef)),(400005,.hold (.i s37) (T4.getD 5 undef)),(299999,.sus g0.w.heap.size ds2),(199999,.sus g0.w.heap.size ds1),(100002,.hold (.ptr 2 0) (T1.getD 2 undef)),(2,.cells [.i 0,.i 0])]) (fun j45 hr=>?_) (fun j45 hr=>?_)
     .refine rn tk 4 rfl<|bs 5 hr rfl (fun c46 hr=>?_) (fun c46 hr=>?_)
      .refine rn tk 5 rfl ?_;cases hr;exact jn _ rfl rfl rfl
      refine rn tk 5 rfl ?_;cases hr;exact jn _ rfl rfl rfl
     refine rn tk 1 rfl ?_;refine ie tk [.bo j45] [(0,.l cI a0.Results),(1,.fn (.func 87) [] []),(5,.i s37),(7,.i ((a0.Results.length:Int))),(8,.i s37)] [(299999,.sus g0.w.heap.size ds2),(199999,.sus g0.w.heap.size ds1),(100002,.hold (.ptr 2 0) (T1.getD 2 undef)),(2,.cells [.i 0,.i 0])] (.inr rfl) rfl rfl rfl rfl (hO ?_);refine rn tk 2 rfl<|ac 16 hr rfl (fun c47 hr=>?_) (fun c47 hr=>?_)
     .refine rn tk 9 rfl ?_;cases hr;exact ato rfl rfl rfl rfl
     refine rn tk 7 rfl ?_;cases hr;exact atc rfl rfl
    refine rn tk 2 rfl ?_;cases hr;exact ato rfl rfl rfl rfl
   .refine rn tk 8 rfl ?_;refine ie tk [.i ((-1))] [] [(199999,.sus g0.w.heap.size ds1),(100002,.hold (.ptr 2 0) (T1.getD 2 undef)),(2,.cells [.i 0,.i 0])] (.inr rfl) rfl rfl rfl rfl ?_;cases hr;exact jump2 _ _ rfl rfl
   refine rn tk 2 rfl ?_;refine ie tk [.i b39] [] [(199999,.sus g0.w.heap.size ds1),(100002,.hold (.ptr 2 0) (T1.getD 2 undef)),(2,.cells [.i 0,.i 0])] (.inr rfl) rfl rfl rfl rfl ?_;cases hr;exact jump2 _ _ rfl rfl
  refine rn tk 5 rfl ?_;refine ie tk [.bo (decide (0<=j36))] [(2,.ptr 2 0)] [(2,.cells [.i 0,.i 0])] (.inr rfl) rfl rfl rfl rfl (hO ?_);refine rn tk 2 rfl<|ac 76 hr rfl (fun c48 hr=>?_) (fun c48 hr=>?_)
  .refine rn tk 2 rfl ?_;obtain ⟨v49,h50,hr⟩:=zaa hr;refine cl (zka _ _ _ h50) rfl rfl<|rn tk 5 rfl ?_;cases hr;exact kr tk (.inr rfl) rfl rfl
  refine rn tk 4 rfl ?_;obtain ⟨v51,h52,hr⟩:=zaa hr;refine cl (zWa _ h52) rfl rfl<|rn tk 4 rfl ?_;cases hr;exact kr tk (.inr rfl) rfl rfl
 refine rn tk 2 rfl ?_;cases hr;exact kr tk (.inr rfl) rfl rfl
theorem Waa(a0:kca)(r:Bool)(hr:yra a0=some r):Run prog 85 [.agg [.s a0.Envelope.From,.l zba.pc a0.Envelope.To,.s a0.Envelope.Id,.l zea.pc a0.Message.Fields,.l cU a0.Message.Body]] (.bo r):=by
 unfold yra at hr;refine rf (fn:=f85) ⟨func85,rfl,by kernel_rfl⟩ rfl (fun _=>rfl) fun g0 hg=>?_
 refine rn tk 6 rfl<|jb hr (fun j1=>[(2,.bo j1)]) (fun j1=>[]) (fun j1 hr=>?_) (fun j1 hr=>?_)
 .refine rn tk 6 rfl<|bs 7 hr rfl (fun c2 hr=>?_) (fun c2 hr=>?_)
  .refine rn tk 6 rfl<|bs 13 hr rfl (fun c3 hr=>?_) (fun c3 hr=>?_)
   .refine rn tk 3 rfl<|ug rfl rfl rfl<|wn tk rfl rfl rfl<|rn tk 3 rfl<|ug rfl rfl rfl<|wn tk rfl rfl rfl<|rn tk 4 rfl<|ug rfl rfl rfl<|wn tk rfl rfl rfl<|rn tk 5 rfl ?_;cases hr;exact jn _ rfl rfl rfl
   refine rn tk 18 rfl ?_;cases hr;exact jn _ rfl rfl rfl
  refine rn tk 24 rfl ?_;cases hr;exact jn _ rfl rfl rfl
 refine rn tk 1 rfl ?_;cases hr;exact kr tk (.inr rfl) rfl rfl
theorem Wba(a0:zha)(r:Bool)(hr:ysa a0=some r):Run prog 47 [.agg [.i a0.Kind,.i a0.Now,.s a0.Mail.Envelope.From,.l zba.pc a0.Mail.Envelope.To,.s a0.Mail.Envelope.Id,.l zea.pc a0.Mail.Message.Fields,.l cU a0.Mail.Message.Body,.i a0.Attempt.Entry,.s a0.Attempt.Domain,.l cI a0.Attempt.To,.l cI a0.Results]] (.bo r):=by
 unfold ysa at hr;refine rf (fn:=f47) ⟨func47,rfl,by kernel_rfl⟩ rfl (fun _=>rfl) fun g0 hg=>?_
 refine rn tk 14 rfl<|ac 6 hr rfl (fun c1 hr=>?_) (fun c1 hr=>?_)
 .refine rn tk 4 rfl ?_;obtain ⟨v2,h3,hr⟩:=zaa hr;refine cl (Waa _ _ h3) rfl rfl<|rn tk 5 rfl ?_;cases hr;exact kr tk (.inr rfl) rfl rfl
 refine rn tk 10 rfl<|jb hr (fun j4=>[(2,.bo j4)]) (fun j4=>[]) (fun j4 hr=>?_) (fun j4 hr=>?_)
 .refine rn tk 5 rfl<|bs 15 hr rfl (fun c5 hr=>?_) (fun c5 hr=>?_)
  .refine rn tk 5 rfl<|bs 20 hr rfl (fun c6 hr=>?_) (fun c6 hr=>?_)
   .refine rn tk 2 rfl<|ug rfl rfl rfl<|wn tk rfl rfl rfl<|rn tk 2 rfl<|ug rfl rfl rfl<|wn tk rfl rfl rfl<|rn tk 5 rfl ?_;cases hr;exact jn _ rfl rfl rfl
   refine rn tk 11 rfl ?_;cases hr;exact jn _ rfl rfl rfl
  refine rn tk 16 rfl ?_;cases hr;exact jn _ rfl rfl rfl
 refine rn tk 1 rfl ?_;cases hr;exact kr tk (.inr rfl) rfl rfl
theorem jka(a0:zha)(r:zqa)(hr:vQa a0=some r):Run prog 23 [.agg [.i a0.Kind,.i a0.Now,.s a0.Mail.Envelope.From,.l zba.pc a0.Mail.Envelope.To,.s a0.Mail.Envelope.Id,.l zea.pc a0.Mail.Message.Fields,.l cU a0.Mail.Message.Body,.i a0.Attempt.Entry,.s a0.Attempt.Domain,.l cI a0.Attempt.To,.l cI a0.Results]] (.agg [.i r.Code,.i r.Index]):=by
 unfold vQa at hr;refine rf (fn:=f23) ⟨func23,rfl,by kernel_rfl⟩ rfl (fun _=>rfl) fun g0 hg=>?_
 refine rn tk 8 rfl<|jb hr (fun j1=>[(1,.ptr 1 0),(2,.ptr 2 0),(4,.bo j1)]) (fun j1=>[(2,.cells [.i 0,.i 0]),(1,.cells [.i a0.Kind,.i a0.Now,.s a0.Mail.Envelope.From,.l zba.pc a0.Mail.Envelope.To,.s a0.Mail.Envelope.Id,.l zea.pc a0.Mail.Message.Fields,.l cU a0.Mail.Message.Body,.i a0.Attempt.Entry,.s a0.Attempt.Domain,.l cI a0.Attempt.To,.l cI a0.Results])]) (fun j1 hr=>?_) (fun j1 hr=>?_)
 .refine rn tk 5 rfl<|bs 8 hr rfl (fun c2 hr=>?_) (fun c2 hr=>?_)
  .refine rn tk 6 rfl ?_;cases hr;exact jn _ rfl rfl rfl
  refine rn tk 6 rfl ?_;cases hr;exact jn _ rfl rfl rfl
 refine ac 4 hr rfl (fun c3 hr=>?_) (fun c3 hr=>?_)
 .refine rn tk 2 rfl ?_;obtain ⟨v4,h5,hr⟩:=zaa hr;refine cl (zka _ _ _ h5) rfl rfl<|rn tk 6 rfl ?_;cases hr;exact kr tk (.inr rfl) rfl rfl
 refine rn tk 4 rfl ?_;obtain ⟨v6,h7,hr⟩:=zaa hr;refine cl (vwa _ _ h7) rfl rfl<|rn tk 4 rfl<|ac 14 hr rfl (fun c8 hr=>?_) (fun c8 hr=>?_)
 .refine rn tk 2 rfl ?_;obtain ⟨v9,h10,hr⟩:=zaa hr;refine cl (zka _ _ _ h10) rfl rfl<|rn tk 6 rfl ?_;cases hr;exact kr tk (.inr rfl) rfl rfl
 refine rn tk 3 rfl ?_;obtain ⟨v11,h12,hr⟩:=zaa hr;refine cl (Wba _ _ h12) rfl rfl<|rn tk 4 rfl<|ac 20 hr rfl (fun c13 hr=>?_) (fun c13 hr=>?_)
 .refine rn tk 2 rfl ?_;obtain ⟨v14,h15,hr⟩:=zaa hr;refine cl (zka _ _ _ h15) rfl rfl<|rn tk 6 rfl ?_;cases hr;exact kr tk (.inr rfl) rfl rfl
 refine rn tk 8 rfl<|ac 25 hr rfl (fun c16 hr=>?_) (fun c16 hr=>?_)
 .refine rn tk 3 rfl ?_;obtain ⟨v17,h18,hr⟩:=zaa hr;refine cl (YNa _ _ h18) rfl rfl<|rn tk 6 rfl ?_;cases hr;exact kr tk (.inr rfl) rfl rfl
 refine rn tk 8 rfl ?_;obtain ⟨v19,h20,hr⟩:=zaa hr;refine cl (wXa _ _ h20) rfl rfl<|rn tk 7 rfl ?_;obtain ⟨v21,h22,hr⟩:=zaa hr;refine cl (zPa _ _ h22) rfl rfl<|rn tk 2 rfl<|ac 35 hr rfl (fun c23 hr=>?_) (fun c23 hr=>?_)
 .refine rn tk 4 rfl ?_;obtain ⟨v24,h25,hr⟩:=zaa hr;refine cl (zka _ _ _ h25) rfl rfl<|rn tk 5 rfl ?_;cases hr;exact kr tk (.inr rfl) rfl rfl
 refine rn tk 4 rfl ?_;obtain ⟨v26,h27,hr⟩:=zaa hr;refine cl (zWa _ h27) rfl rfl<|rn tk 4 rfl ?_;cases hr;exact kr tk (.inr rfl) rfl rfl
theorem zRa(a0:zma)(a1:Int)(r:zma)(hr:zJa a0 a1=some r):RunS prog 53 [.ptr 90004000 0,.i a1] [(90004000,.cells [.hs 90004001 0]),(90004001,.row 5 false 1 (List.map cU a0.out))] (.tup []) [(90004000,.cells [.hs 90004001 0]),(90004001,.row 5 false 1 (List.map cU r.out))] 90004000 [90004001]:=by
 unfold zJa at hr;refine rfS (fn:=f53) (H:=90004999) (.ptr 90004000 0) ⟨func53,rfl,by kernel_rfl⟩ rfl (hasT rfl) (.inl ⟨rfl,rfl⟩) rfl rfl rfl rfl fun g0 hg S sg T=>?_
 refine rn tk 6 rfl<|al1 hr (fun s1=>[(0,.ptr 90004000 0),(1,.i a1),(5,.i s1.1)]) (fun s1=>[(90004999,.hold (.ptr 90004000 0) (T.getD 0 undef)),(90004000,.cells [.hs 90004001 0]),(90004001,.row 5 false 1 (List.map cU s1.2.out))]) (.exit 0) (fun b2=>[]) (fun b2=>[(90004000,.cells [.hs 90004001 0]),(90004001,.row 5 false 1 (List.map cU b2.out)),(90004999,.hold (.ptr 90004000 0) (T.getD 0 undef))]) rfl rfl (fun s1 x3 hr=>?_) (fun b2 hr=>?_)
 .unfold kaa at hr;refine rn tk 6 rfl<|ac 6 hr rfl (fun c4 hr=>?_) (fun c4 hr=>?_)
  .refine rn tk 10 rfl ?_;obtain ⟨v5,h6,hr⟩:=zaa hr;obtain ⟨v7,h8,hr⟩:=zaa hr;refine drF 12 0 [(19,.l cU (([(toU8 ((uShr ((wu64 a1)) ((w64 (8 * s1.1))))))]:List UInt8))),(18,.u8 ((toU8 ((uShr ((wu64 a1)) ((w64 (8 * s1.1)))))))),(17,.pv (.b (.int .u64 ((uShr ((wu64 a1)) ((w64 (8 * s1.1)))))))),(16,.i ((w64 (8 * s1.1)))),(15,.i s1.1),(14,.pv (.b (.int .u64 ((wu64 a1))))),(13,.i a1),(12,.hs 90004001 0),(11,.ptr 90004000 0),(10,.ptr 90004000 0),(9,.ptr 90004000 0),(8,.ptr 90004000 0)] [(19,.l cU (([(toU8 ((uShr ((wu64 a1)) ((w64 (8 * s1.1))))))]:List UInt8))),(18,.u8 ((toU8 ((uShr ((wu64 a1)) ((w64 (8 * s1.1)))))))),(17,.pv (.b (.int .u64 ((uShr ((wu64 a1)) ((w64 (8 * s1.1)))))))),(16,.i ((w64 (8 * s1.1)))),(15,.i s1.1),(14,.pv (.b (.int .u64 ((wu64 a1))))),(13,.i a1),(12,.hs 90004001 0),(11,.ptr 90004000 0),(10,.ptr 90004000 0),(9,.ptr 90004000 0),(8,.any)] [(0,.ptr 90004000 0),(1,.i a1),(5,.i s1.1),(8,.ptr 90004000 0),(20,.hs 90004001 0)] [(90004999,.hold (.ptr 90004000 0) (T.getD 0 undef)),(90004000,.cells [.any]),(90004001,.row 5 false 1 (List.map cU v7))] mixed (by kernel_rfl) rfl rfl rfl rfl rfl (pqA tk rfl (.plain rfl) (pqA tk rfl (.plain rfl) (pqA tk rfl (.plain rfl) (pqA tk rfl (.plain rfl) (pqA tk rfl (.plain rfl) (pqA tk rfl (.plain rfl) (.run (.plain rfl) (zta (WFa rfl z7a kKa)) (pqA tk rfl (.plain rfl) (pqA tk rfl (.plain rfl) (.run (.plain rfl) (zta (k1b rfl rfl (KDa h6))) (.run (.plain rfl) (zta (JQa rfl kKa zNa)) (.run (.plain rfl) (yya (F:=cU) (l:=([(toU8 ((uShr ((wu64 a1)) ((w64 (8 * s1.1))))))]:List UInt8)) zoa zNa rfl (fun _=>rfl) rfl rfl) .nil)))))))))))) rfl rfl rfl rfl rfl (fun hJ=>?_) (fun hJ=>?_) ?_
   .refine wa tk h8 rfl rfl rfl rfl (fun _=>rfl) rfl rfl ?_;exact hJ _ _ rfl rfl
   .refine wa tk h8 rfl rfl rfl rfl (fun _=>rfl) rfl rfl<|rn tk 1 rfl ?_;exact hJ _ _ rfl rfl
   refine rn tk 10 rfl ?_;cases hr;exact atc rfl rfl
  refine rn tk 2 rfl ?_;cases hr;exact ato rfl rfl rfl rfl
 refine rn tk 1 rfl ?_;cases hr;exact krS tk (.inl rfl) rfl rfl (zda rfl (zda rfl (zda rfl zna)))
theorem kha(a0:zma)(a1:Str)(r:zma)(hr:z4a a0 a1=some r):RunS prog 52 [.ptr 90004000 0,.s a1] [(90004000,.cells [.hs 90004001 0]),(90004001,.row 5 false 1 (List.map cU a0.out))] (.tup []) [(90004000,.cells [.hs 90004001 0]),(90004001,.row 5 false 1 (List.map cU r.out))] 90004000 [90004001]:=by
 unfold z4a at hr;refine rfS (fn:=f52) (H:=90004999) (.ptr 90004000 0) ⟨func52,rfl,by kernel_rfl⟩ rfl (hasT rfl) (.inl ⟨rfl,rfl⟩) rfl rfl rfl rfl fun g0 hg S sg T=>?_
 refine rn tk 5 rfl ?_;obtain ⟨v1,h2,hr⟩:=zaa hr;refine wo (zUa (k:=7) (zRa a0 ((a1.length:Int)) v1 h2) rfl rfl (zda rfl (zda rfl zna))) rfl<|rn tk 9 rfl ?_;obtain ⟨v3,h4,hr⟩:=zaa hr;refine wo (ZTa (k:=14) (l:=v1.out) (s:=a1) (lim:=140737488355328) rfl rfl rfl rfl zoa z2a.u zNa rfl h4) rfl<|rn tk 4 rfl ?_;cases hr;exact krS tk (.inl rfl) rfl rfl (zda rfl (zda rfl (zda rfl zna)))
theorem YOa(a0:zha)(r:List UInt8)(hr:j2a a0=some r):Run prog 51 [.agg [.i a0.Kind,.i a0.Now,.s a0.Mail.Envelope.From,.l zba.pc a0.Mail.Envelope.To,.s a0.Mail.Envelope.Id,.l zea.pc a0.Mail.Message.Fields,.l cU a0.Mail.Message.Body,.i a0.Attempt.Entry,.s a0.Attempt.Domain,.l cI a0.Attempt.To,.l cI a0.Results]] (.l cU r):=by
 unfold j2a at hr;refine rf (fn:=f51) ⟨func51,rfl,by kernel_rfl⟩ rfl (fun _=>rfl) fun g0 hg=>?_
 refine rn tk 9 rfl<|wo (Kxa (k:=6) 90004000 rfl rfl rfl rfl rfl) rfl<|rn tk 2 rfl ?_;refine woa 90004001 (o:=90004000) (j:=0) 5 1 rfl rfl rfl rfl (hO ?_);refine rn tk 7 rfl ?_;obtain ⟨v1,h2,hr⟩:=zaa hr;refine wo (zUa (k:=10) (zRa ((zma.mk (([]:List UInt8)))) a0.Kind v1 h2) rfl rfl (zda rfl (zda rfl zna))) rfl<|rn tk 7 rfl ?_;obtain ⟨v3,h4,hr⟩:=zaa hr;refine wo (zUa (k:=14) (zRa v1 a0.Now v3 h4) rfl rfl (zda rfl (zda rfl zna))) rfl<|rn tk 10 rfl<|ac 17 hr rfl (fun c5 hr=>?_) (fun c5 hr=>?_)
 .refine rn tk 14 rfl ?_;obtain ⟨v6,h7,hr⟩:=zaa hr;refine wo (zUa (k:=24) (kha v3 a0.Mail.Envelope.From v6 h7) rfl rfl (zda rfl (zda rfl zna))) rfl<|rn tk 8 rfl<|il (fn:=f90) (args:=[.ptr 90004000 0,.l zba.pc a0.Mail.Envelope.To,.fn (.func 91) [] [.ptr 3 0]]) 100000 199999 [(1,.ptr 1 0),(3,.ptr 3 0),(4,.ptr 4 0)] rfl ⟨func90,rfl,by kernel_rfl⟩ rfl rfl rfl fun T1 ds1=>?_
  refine rn tk 4 rfl<|wn tk rfl rfl rfl ?_;obtain ⟨v8,h9,hr⟩:=zaa hr;refine wo (zUa (k:=11) (zRa v6 ((a0.Mail.Envelope.To.length:Int)) v8 h9) rfl rfl (zda rfl (zda rfl zna))) rfl<|rn tk 5 rfl<|wn tk rfl rfl rfl<|rn tk 4 rfl<|al1 hr (fun s10=>[(2,.fn (.func 91) [] [.ptr 3 0]),(12,.l zba.pc a0.Mail.Envelope.To),(13,.i ((a0.Mail.Envelope.To.length:Int))),(14,.i s10.1)]) (fun s10=>[(90004000,.cells [.hs 90004001 0]),(90004001,.row 5 false 1 (List.map cU s10.2.out)),(199999,.sus g0.w.heap.size ds1),(100001,.hold (.ptr 1 0) (T1.getD 1 undef)),(100003,.hold (.ptr 3 0) (T1.getD 3 undef)),(100004,.hold (.ptr 4 0) (T1.getD 4 undef)),(4,.cells [.s a0.Mail.Envelope.From,.l zba.pc a0.Mail.Envelope.To,.s a0.Mail.Envelope.Id]),(3,.cells [.ptr 90004000 0]),(1,.cells [.i a0.Kind,.i a0.Now,.s a0.Mail.Envelope.From,.l zba.pc a0.Mail.Envelope.To,.s a0.Mail.Envelope.Id,.l zea.pc a0.Mail.Message.Fields,.l cU a0.Mail.Message.Body,.i a0.Attempt.Entry,.s a0.Attempt.Domain,.l cI a0.Attempt.To,.l cI a0.Results])]) (.exit 0) (fun b11=>[]) (fun b11=>[(90004000,.cells [.hs 90004001 0]),(90004001,.row 5 false 1 (List.map cU b11.out)),(199999,.sus g0.w.heap.size ds1),(100001,.hold (.ptr 1 0) (T1.getD 1 undef)),(100003,.hold (.ptr 3 0) (T1.getD 3 undef)),(100004,.hold (.ptr 4 0) (T1.getD 4 undef)),(4,.cells [.s a0.Mail.Envelope.From,.l zba.pc a0.Mail.Envelope.To,.s a0.Mail.Envelope.Id]),(3,.cells [.ptr 90004000 0]),(1,.cells [.i a0.Kind,.i a0.Now,.s a0.Mail.Envelope.From,.l zba.pc a0.Mail.Envelope.To,.s a0.Mail.Envelope.Id,.l zea.pc a0.Mail.Message.Fields,.l cU a0.Mail.Message.Body,.i a0.Attempt.Entry,.s a0.Attempt.Domain,.l cI a0.Attempt.To,.l cI a0.Results])]) rfl rfl (fun s10 x12 hr=>?_) (fun b11 hr=>?_)
  .unfold wNa at hr;refine rn tk 6 rfl<|ac 15 hr rfl (fun c13 hr=>?_) (fun c13 hr=>?_)
   .refine rn tk 6 rfl ?_;obtain ⟨v14,h15,hr⟩:=zaa hr;refine wi tk h15 rfl rfl rfl rfl rfl<|rn tk 8 rfl<|il (fn:=f91) (args:=[.agg [.s v14.Address,.i v14.Notify],.ptr 3 0]) 400000 499999 [(2,.fn (.func 91) [] [.ptr 3 0]),(12,.l zba.pc a0.Mail.Envelope.To),(13,.i ((a0.Mail.Envelope.To.length:Int))),(14,.i s10.1)] rfl ⟨func91,rfl,by kernel_rfl⟩ rfl rfl rfl fun T4 ds4=>?_
    refine rn tk 10 rfl ?_;obtain ⟨v16,h17,hr⟩:=zaa hr;refine wo (zUa (k:=6) (kha s10.2 v14.Address v16 h17) rfl rfl (zda rfl (zda rfl zna))) rfl<|rn tk 6 rfl ?_;obtain ⟨v18,h19,hr⟩:=zaa hr;refine wo (zUa (k:=10) (zRa v16 v14.Notify v18 h19) rfl rfl (zda rfl (zda rfl zna))) rfl<|rn tk 1 rfl ?_;refine ie tk [] [(2,.fn (.func 91) [] [.ptr 3 0]),(12,.l zba.pc a0.Mail.Envelope.To),(13,.i ((a0.Mail.Envelope.To.length:Int))),(14,.i s10.1)] [(90004000,.cells [.hs 90004001 0]),(90004001,.row 5 false 1 (List.map cU v18.out)),(2,.cells [.s v14.Address,.i v14.Notify]),(7,.cells [.s v14.Address,.i v14.Notify]),(199999,.sus g0.w.heap.size ds1),(100001,.hold (.ptr 1 0) (T1.getD 1 undef)),(100003,.hold (.ptr 3 0) (T1.getD 3 undef)),(100004,.hold (.ptr 4 0) (T1.getD 4 undef)),(4,.cells [.s a0.Mail.Envelope.From,.l zba.pc a0.Mail.Envelope.To,.s a0.Mail.Envelope.Id]),(3,.cells [.ptr 90004000 0]),(1,.cells [.i a0.Kind,.i a0.Now,.s a0.Mail.Envelope.From,.l zba.pc a0.Mail.Envelope.To,.s a0.Mail.Envelope.Id,.l zea.pc a0.Mail.Message.Fields,.l cU a0.Mail.Message.Body,.i a0.Attempt.Entry,.s a0.Attempt.Domain,.l cI a0.Attempt.To,.l cI a0.Results])] (.inl rfl) rfl rfl rfl rfl (hO ?_);refine rn tk 7 rfl ?_;cases hr;exact atc rfl rfl
   refine rn tk 2 rfl ?_;cases hr;exact ato rfl rfl rfl rfl
  refine rn tk 1 rfl ?_;refine ie tk [] [(1,.ptr 1 0),(3,.ptr 3 0),(4,.ptr 4 0)] [(90004000,.cells [.hs 90004001 0]),(90004001,.row 5 false 1 (List.map cU b11.out)),(4,.cells [.s a0.Mail.Envelope.From,.l zba.pc a0.Mail.Envelope.To,.s a0.Mail.Envelope.Id]),(3,.cells [.ptr 90004000 0]),(1,.cells [.i a0.Kind,.i a0.Now,.s a0.Mail.Envelope.From,.l zba.pc a0.Mail.Envelope.To,.s a0.Mail.Envelope.Id,.l zea.pc a0.Mail.Message.Fields,.l cU a0.Mail.Message.Body,.i a0.Attempt.Entry,.s a0.Attempt.Domain,.l cI a0.Attempt.To,.l cI a0.Results])] (.inl rfl) rfl rfl rfl rfl (hO ?_);refine rn tk 7 rfl ?_;obtain ⟨v20,h21,hr⟩:=zaa hr;refine wo (zUa (k:=33) (kha b11 a0.Mail.Envelope.Id v20 h21) rfl rfl (zda rfl (zda rfl zna))) rfl<|rn tk 10 rfl<|il (fn:=f92) (args:=[.ptr 90004000 0,.l zea.pc a0.Mail.Message.Fields,.fn (.func 93) [] [.ptr 3 0]]) 500000 599999 [(1,.ptr 1 0),(3,.ptr 3 0)] rfl ⟨func92,rfl,by kernel_rfl⟩ rfl rfl rfl fun T5 ds5=>?_
  refine rn tk 4 rfl<|wn tk rfl rfl rfl ?_;obtain ⟨v22,h23,hr⟩:=zaa hr;refine wo (zUa (k:=11) (zRa v20 ((a0.Mail.Message.Fields.length:Int)) v22 h23) rfl rfl (zda rfl (zda rfl zna))) rfl<|rn tk 5 rfl<|wn tk rfl rfl rfl<|rn tk 4 rfl<|al1 hr (fun s24=>[(2,.fn (.func 93) [] [.ptr 3 0]),(12,.l zea.pc a0.Mail.Message.Fields),(13,.i ((a0.Mail.Message.Fields.length:Int))),(14,.i s24.1)]) (fun s24=>[(90004000,.cells [.hs 90004001 0]),(90004001,.row 5 false 1 (List.map cU s24.2.out)),(599999,.sus g0.w.heap.size ds5),(500001,.hold (.ptr 1 0) (T5.getD 1 undef)),(500003,.hold (.ptr 3 0) (T5.getD 3 undef)),(3,.cells [.ptr 90004000 0]),(1,.cells [.i a0.Kind,.i a0.Now,.s a0.Mail.Envelope.From,.l zba.pc a0.Mail.Envelope.To,.s a0.Mail.Envelope.Id,.l zea.pc a0.Mail.Message.Fields,.l cU a0.Mail.Message.Body,.i a0.Attempt.Entry,.s a0.Attempt.Domain,.l cI a0.Attempt.To,.l cI a0.Results])]) (.exit 0) (fun b25=>[]) (fun b25=>[(90004000,.cells [.hs 90004001 0]),(90004001,.row 5 false 1 (List.map cU b25.out)),(599999,.sus g0.w.heap.size ds5),(500001,.hold (.ptr 1 0) (T5.getD 1 undef)),(500003,.hold (.ptr 3 0) (T5.getD 3 undef)),(3,.cells [.ptr 90004000 0]),(1,.cells [.i a0.Kind,.i a0.Now,.s a0.Mail.Envelope.From,.l zba.pc a0.Mail.Envelope.To,.s a0.Mail.Envelope.Id,.l zea.pc a0.Mail.Message.Fields,.l cU a0.Mail.Message.Body,.i a0.Attempt.Entry,.s a0.Attempt.Domain,.l cI a0.Attempt.To,.l cI a0.Results])]) rfl rfl (fun s24 x26 hr=>?_) (fun b25 hr=>?_)
  .unfold wOa at hr;refine rn tk 6 rfl<|ac 15 hr rfl (fun c27 hr=>?_) (fun c27 hr=>?_)
   .refine rn tk 6 rfl ?_;obtain ⟨v28,h29,hr⟩:=zaa hr;refine wi tk h29 rfl rfl rfl rfl rfl<|rn tk 8 rfl<|il (fn:=f93) (args:=[.agg [.s v28.Name,.s v28.Value],.ptr 3 0]) 800000 899999 [(2,.fn (.func 93) [] [.ptr 3 0]),(12,.l zea.pc a0.Mail.Message.Fields),(13,.i ((a0.Mail.Message.Fields.length:Int))),(14,.i s24.1)] rfl ⟨func93,rfl,by kernel_rfl⟩ rfl rfl rfl fun T8 ds8=>?_
    refine rn tk 10 rfl ?_;obtain ⟨v30,h31,hr⟩:=zaa hr;refine wo (zUa (k:=6) (kha s24.2 v28.Name v30 h31) rfl rfl (zda rfl (zda rfl zna))) rfl<|rn tk 6 rfl ?_;obtain ⟨v32,h33,hr⟩:=zaa hr;refine wo (zUa (k:=10) (kha v30 v28.Value v32 h33) rfl rfl (zda rfl (zda rfl zna))) rfl<|rn tk 1 rfl ?_;refine ie tk [] [(2,.fn (.func 93) [] [.ptr 3 0]),(12,.l zea.pc a0.Mail.Message.Fields),(13,.i ((a0.Mail.Message.Fields.length:Int))),(14,.i s24.1)] [(90004000,.cells [.hs 90004001 0]),(90004001,.row 5 false 1 (List.map cU v32.out)),(2,.cells [.s v28.Name,.s v28.Value]),(7,.cells [.s v28.Name,.s v28.Value]),(599999,.sus g0.w.heap.size ds5),(500001,.hold (.ptr 1 0) (T5.getD 1 undef)),(500003,.hold (.ptr 3 0) (T5.getD 3 undef)),(3,.cells [.ptr 90004000 0]),(1,.cells [.i a0.Kind,.i a0.Now,.s a0.Mail.Envelope.From,.l zba.pc a0.Mail.Envelope.To,.s a0.Mail.Envelope.Id,.l zea.pc a0.Mail.Message.Fields,.l cU a0.Mail.Message.Body,.i a0.Attempt.Entry,.s a0.Attempt.Domain,.l cI a0.Attempt.To,.l cI a0.Results])] (.inl rfl) rfl rfl rfl rfl (hO ?_);refine rn tk 7 rfl ?_;cases hr;exact atc rfl rfl
   refine rn tk 2 rfl ?_;cases hr;exact ato rfl rfl rfl rfl
  refine rn tk 1 rfl ?_;refine ie tk [] [(1,.ptr 1 0),(3,.ptr 3 0)] [(90004000,.cells [.hs 90004001 0]),(90004001,.row 5 false 1 (List.map cU b25.out)),(3,.cells [.ptr 90004000 0]),(1,.cells [.i a0.Kind,.i a0.Now,.s a0.Mail.Envelope.From,.l zba.pc a0.Mail.Envelope.To,.s a0.Mail.Envelope.Id,.l zea.pc a0.Mail.Message.Fields,.l cU a0.Mail.Message.Body,.i a0.Attempt.Entry,.s a0.Attempt.Domain,.l cI a0.Attempt.To,.l cI a0.Results])] (.inl rfl) rfl rfl rfl rfl (hO ?_);refine rn tk 9 rfl<|wb tk rfl rfl rfl ?_;obtain ⟨v34,h35,hr⟩:=zaa hr;refine wo (zUa (k:=47) (kha b25 a0.Mail.Message.Body v34 h35) rfl rfl (zda rfl (zda rfl zna))) rfl<|rn tk 11 rfl ?_;refine vxa (d:=2) (F:=cU) (l:=v34.out) rfl rfl (hC ?_);refine rn tk 2 rfl ?_;cases hr;exact kr tk (.inr rfl) rfl rfl
 refine rn tk 8 rfl ?_;obtain ⟨v36,h37,hr⟩:=zaa hr;refine wo (zUa (k:=56) (zRa v3 a0.Attempt.Entry v36 h37) rfl rfl (zda rfl (zda rfl zna))) rfl<|rn tk 8 rfl ?_;obtain ⟨v38,h39,hr⟩:=zaa hr;refine wo (zUa (k:=61) (kha v36 a0.Attempt.Domain v38 h39) rfl rfl (zda rfl (zda rfl zna))) rfl<|rn tk 10 rfl<|il (fn:=f94) (args:=[.ptr 90004000 0,.l cI a0.Attempt.To,.fn (.func 53) [.ptr 90004000 0] []]) 900000 999999 [(1,.ptr 1 0),(3,.ptr 3 0)] rfl ⟨func94,rfl,by kernel_rfl⟩ rfl rfl rfl fun T9 ds9=>?_
 refine rn tk 4 rfl<|wn tk rfl rfl rfl ?_;obtain ⟨v40,h41,hr⟩:=zaa hr;refine wo (zUa (k:=11) (zRa v38 ((a0.Attempt.To.length:Int)) v40 h41) rfl rfl (zda rfl (zda rfl zna))) rfl<|rn tk 5 rfl<|wn tk rfl rfl rfl<|rn tk 4 rfl<|al1 hr (fun s42=>[(2,.fn (.func 53) [.ptr 90004000 0] []),(12,.l cI a0.Attempt.To),(13,.i ((a0.Attempt.To.length:Int))),(14,.i s42.1)]) (fun s42=>[(90004000,.cells [.hs 90004001 0]),(90004001,.row 5 false 1 (List.map cU s42.2.out)),(999999,.sus g0.w.heap.size ds9),(900001,.hold (.ptr 1 0) (T9.getD 1 undef)),(900003,.hold (.ptr 3 0) (T9.getD 3 undef)),(3,.cells [.ptr 90004000 0]),(1,.cells [.i a0.Kind,.i a0.Now,.s a0.Mail.Envelope.From,.l zba.pc a0.Mail.Envelope.To,.s a0.Mail.Envelope.Id,.l zea.pc a0.Mail.Message.Fields,.l cU a0.Mail.Message.Body,.i a0.Attempt.Entry,.s a0.Attempt.Domain,.l cI a0.Attempt.To,.l cI a0.Results])]) (.exit 0) (fun b43=>[]) (fun b43=>[(90004000,.cells [.hs 90004001 0]),(90004001,.row 5 false 1 (List.map cU b43.out)),(999999,.sus g0.w.heap.size ds9),(900001,.hold (.ptr 1 0) (T9.getD 1 undef)),(900003,.hold (.ptr 3 0) (T9.getD 3 undef)),(3,.cells [.ptr 90004000 0]),(1,.cells [.i a0.Kind,.i a0.Now,.s a0.Mail.Envelope.From,.l zba.pc a0.Mail.Envelope.To,.s a0.Mail.Envelope.Id,.l zea.pc a0.Mail.Message.Fields,.l cU a0.Mail.Message.Body,.i a0.Attempt.Entry,.s a0.Attempt.Domain,.l cI a0.Attempt.To,.l cI a0.Results])]) rfl rfl (fun s42 x44 hr=>?_) (fun b43 hr=>?_)
 .unfold wPa at hr;refine rn tk 6 rfl<|ac 15 hr rfl (fun c45 hr=>?_) (fun c45 hr=>?_)
  .refine rn tk 6 rfl ?_;obtain ⟨v46,h47,hr⟩:=zaa hr;refine wi tk h47 rfl rfl rfl rfl rfl<|rn tk 7 rfl<|il (fn:=f53) (args:=[.ptr 90004000 0,.i v46]) 1200000 1299999 [(2,.fn (.func 53) [.ptr 90004000 0] []),(12,.l cI a0.Attempt.To),(13,.i ((a0.Attempt.To.length:Int))),(14,.i s42.1)] rfl ⟨func53,rfl,by kernel_rfl⟩ rfl rfl rfl fun T12 ds12=>?_
   refine rn tk 6 rfl<|al1 hr (fun s48=>[(0,.ptr 90004000 0),(1,.i v46),(5,.i s48.1)]) (fun s48=>[(1299999,.sus g0.w.heap.size ds12),(1200002,.hold (.fn (.func 53) [.ptr 90004000 0] []) (T12.getD 2 undef)),(1200012,.hold (.l cI a0.Attempt.To) (T12.getD 12 undef)),(1200013,.hold (.i ((a0.Attempt.To.length:Int))) (T12.getD 13 undef)),(1200014,.hold (.i s42.1) (T12.getD 14 undef)),(90004000,.cells [.hs 90004001 0]),(90004001,.row 5 false 1 (List.map cU s48.2.out)),(999999,.sus g0.w.heap.size ds9),(900001,.hold (.ptr 1 0) (T9.getD 1 undef)),(900003,.hold (.ptr 3 0) (T9.getD 3 undef)),(3,.cells [.ptr 90004000 0]),(1,.cells [.i a0.Kind,.i a0.Now,.s a0.Mail.Envelope.From,.l zba.pc a0.Mail.Envelope.To,.s a0.Mail.Envelope.Id,.l zea.pc a0.Mail.Message.Fields,.l cU a0.Mail.Message.Body,.i a0.Attempt.Entry,.s a0.Attempt.Domain,.l cI a0.Attempt.To,.l cI a0.Results])]) (.exit 0) (fun b49=>[]) (fun b49=>[(90004000,.cells [.hs 90004001 0]),(90004001,.row 5 false 1 (List.map cU b49.out)),(1299999,.sus g0.w.heap.size ds12),(1200002,.hold (.fn (.func 53) [.ptr 90004000 0] []) (T12.getD 2 undef)),(1200012,.hold (.l cI a0.Attempt.To) (T12.getD 12 undef)),(1200013,.hold (.i ((a0.Attempt.To.length:Int))) (T12.getD 13 undef)),(1200014,.hold (.i s42.1) (T12.getD 14 undef)),(999999,.sus g0.w.heap.size ds9),(900001,.hold (.ptr 1 0) (T9.getD 1 undef)),(900003,.hold (.ptr 3 0) (T9.getD 3 undef)),(3,.cells [.ptr 90004000 0]),(1,.cells [.i a0.Kind,.i a0.Now,.s a0.Mail.Envelope.From,.l zba.pc a0.Mail.Envelope.To,.s a0.Mail.Envelope.Id,.l zea.pc a0.Mail.Message.Fields,.l cU a0.Mail.Message.Body,.i a0.Attempt.Entry,.s a0.Attempt.Domain,.l cI a0.Attempt.To,.l cI a0.Results])]) rfl rfl (fun s48 x50 hr=>?_) (fun b49 hr=>?_)
   .unfold Zqa at hr;refine rn tk 6 rfl<|ac 6 hr rfl (fun c51 hr=>?_) (fun c51 hr=>?_)
    .refine rn tk 10 rfl ?_;obtain ⟨v52,h53,hr⟩:=zaa hr;obtain ⟨v54,h55,hr⟩:=zaa hr;refine drF 12 0 [(19,.l cU (([(toU8 ((uShr ((wu64 v46)) ((w64 (8 * s48.1))))))]:List UInt8))),(18,.u8 ((toU8 ((uShr ((wu64 v46)) ((w64 (8 * s48.1)))))))),(17,.pv (.b (.int .u64 ((uShr ((wu64 v46)) ((w64 (8 * s48.1)))))))),(16,.i ((w64 (8 * s48.1)))),(15,.i s48.1),(14,.pv (.b (.int .u64 ((wu64 v46))))),(13,.i v46),(12,.hs 90004001 0),(11,.ptr 90004000 0),(10,.ptr 90004000 0),(9,.ptr 90004000 0),(8,.ptr 90004000 0)] [(19,.l cU (([(toU8 ((uShr ((wu64 v46)) ((w64 (8 * s48.1))))))]:List UInt8))),(18,.u8 ((toU8 ((uShr ((wu64 v46)) ((w64 (8 * s48.1)))))))),(17,.pv (.b (.int .u64 ((uShr ((wu64 v46)) ((w64 (8 * s48.1)))))))),(16,.i ((w64 (8 * s48.1)))),(15,.i s48.1),(14,.pv (.b (.int .u64 ((wu64 v46))))),(13,.i v46),(12,.hs 90004001 0),(11,.ptr 90004000 0),(10,.ptr 90004000 0),(9,.ptr 90004000 0),(8,.any)] [(0,.ptr 90004000 0),(1,.i v46),(5,.i s48.1),(8,.ptr 90004000 0),(20,.hs 90004001 0)] [(1299999,.sus g0.w.heap.size ds12),(1200002,.hold (.fn (.func 53) [.ptr 90004000 0] []) (T12.getD 2 undef)),(1200012,.hold (.l cI a0.Attempt.To) (T12.getD 12 undef)),(1200013,.hold (.i ((a0.Attempt.To.length:Int))) (T12.getD 13 undef)),(1200014,.hold (.i s42.1) (T12.getD 14 undef)),(90004000,.cells [.any]),(90004001,.row 5 false 1 (List.map cU v54)),(999999,.sus g0.w.heap.size ds9),(900001,.hold (.ptr 1 0) (T9.getD 1 undef)),(900003,.hold (.ptr 3 0) (T9.getD 3 undef)),(3,.cells [.ptr 90004000 0]),(1,.cells [.i a0.Kind,.i a0.Now,.s a0.Mail.Envelope.From,.l zba.pc a0.Mail.Envelope.To,.s a0.Mail.Envelope.Id,.l zea.pc a0.Mail.Message.Fields,.l cU a0.Mail.Message.Body,.i a0.Attempt.Entry,.s a0.Attempt.Domain,.l cI a0.Attempt.To,.l cI a0.Results])] mixed (by kernel_rfl) rfl rfl rfl rfl rfl (pqA tk rfl (.plain rfl) (pqA tk rfl (.plain rfl) (pqA tk rfl (.plain rfl) (pqA tk rfl (.plain rfl) (pqA tk rfl (.plain rfl) (pqA tk rfl (.plain rfl) (.run (.plain rfl) (zta (WFa rfl z7a kKa)) (pqA tk rfl (.plain rfl) (pqA tk rfl (.plain rfl) (.run (.plain rfl) (zta (k1b rfl rfl (KDa h53))) (.run (.plain rfl) (zta (JQa rfl kKa zNa)) (.run (.plain rfl) (yya (F:=cU) (l:=([(toU8 ((uShr ((wu64 v46)) ((w64 (8 * s48.1))))))]:List UInt8)) zoa zNa rfl (fun _=>rfl) rfl rfl) .nil)))))))))))) rfl rfl rfl rfl rfl (fun hJ=>?_) (fun hJ=>?_) ?_
     .refine wa tk h55 rfl rfl rfl rfl (fun _=>rfl) rfl rfl ?_;exact hJ _ _ rfl rfl
     .refine wa tk h55 rfl rfl rfl rfl (fun _=>rfl) rfl rfl<|rn tk 1 rfl ?_;exact hJ _ _ rfl rfl
     refine rn tk 10 rfl ?_;cases hr;exact atc rfl rfl
    refine rn tk 2 rfl ?_;cases hr;exact ato rfl rfl rfl rfl
   refine rn tk 1 rfl ?_;refine ie tk [] [(2,.fn (.func 53) [.ptr 90004000 0] []),(12,.l cI a0.Attempt.To),(13,.i ((a0.Attempt.To.length:Int))),(14,.i s42.1)] [(90004000,.cells [.hs 90004001 0]),(90004001,.row 5 false 1 (List.map cU b49.out)),(999999,.sus g0.w.heap.size ds9),(900001,.hold (.ptr 1 0) (T9.getD 1 undef)),(900003,.hold (.ptr 3 0) (T9.getD 3 undef)),(3,.cells [.ptr 90004000 0]),(1,.cells [.i a0.Kind,.i a0.Now,.s a0.Mail.Envelope.From,.l zba.pc a0.Mail.Envelope.To,.s a0.Mail.Envelope.Id,.l zea.pc a0.Mail.Message.Fields,.l cU a0.Mail.Message.Body,.i a0.Attempt.Entry,.s a0.Attempt.Domain,.l cI a0.Attempt.To,.l cI a0.Results])] (.inl rfl) rfl rfl rfl rfl (hO ?_);refine rn tk 7 rfl ?_;cases hr;exact atc rfl rfl
  refine rn tk 2 rfl ?_;cases hr;exact ato rfl rfl rfl rfl
 refine rn tk 1 rfl ?_;refine ie tk [] [(1,.ptr 1 0),(3,.ptr 3 0)] [(90004000,.cells [.hs 90004001 0]),(90004001,.row 5 false 1 (List.map cU b43.out)),(3,.cells [.ptr 90004000 0]),(1,.cells [.i a0.Kind,.i a0.Now,.s a0.Mail.Envelope.From,.l zba.pc a0.Mail.Envelope.To,.s a0.Mail.Envelope.Id,.l zea.pc a0.Mail.Message.Fields,.l cU a0.Mail.Message.Body,.i a0.Attempt.Entry,.s a0.Attempt.Domain,.l cI a0.Attempt.To,.l cI a0.Results])] (.inl rfl) rfl rfl rfl rfl (hO ?_);refine rn tk 9 rfl<|il (fn:=f94) (args:=[.ptr 90004000 0,.l cI a0.Results,.fn (.func 53) [.ptr 90004000 0] []]) 1300000 1399999 [(3,.ptr 3 0)] rfl ⟨func94,rfl,by kernel_rfl⟩ rfl rfl rfl fun T13 ds13=>?_
 refine rn tk 4 rfl<|wn tk rfl rfl rfl ?_;obtain ⟨v56,h57,hr⟩:=zaa hr;refine wo (zUa (k:=11) (zRa b43 ((a0.Results.length:Int)) v56 h57) rfl rfl (zda rfl (zda rfl zna))) rfl<|rn tk 5 rfl<|wn tk rfl rfl rfl<|rn tk 4 rfl<|al1 hr (fun s58=>[(2,.fn (.func 53) [.ptr 90004000 0] []),(12,.l cI a0.Results),(13,.i ((a0.Results.length:Int))),(14,.i s58.1)]) (fun s58=>[(90004000,.cells [.hs 90004001 0]),(90004001,.row 5 false 1 (List.map cU s58.2.out)),(1399999,.sus g0.w.heap.size ds13),(1300003,.hold (.ptr 3 0) (T13.getD 3 undef)),(3,.cells [.ptr 90004000 0])]) (.exit 0) (fun b59=>[]) (fun b59=>[(90004000,.cells [.hs 90004001 0]),(90004001,.row 5 false 1 (List.map cU b59.out)),(1399999,.sus g0.w.heap.size ds13),(1300003,.hold (.ptr 3 0) (T13.getD 3 undef)),(3,.cells [.ptr 90004000 0])]) rfl rfl (fun s58 x60 hr=>?_) (fun b59 hr=>?_)
 .unfold wQa at hr;refine rn tk 6 rfl<|ac 15 hr rfl (fun c61 hr=>?_) (fun c61 hr=>?_)
  .refine rn tk 6 rfl ?_;obtain ⟨v62,h63,hr⟩:=zaa hr;refine wi tk h63 rfl rfl rfl rfl rfl<|rn tk 7 rfl<|il (fn:=f53) (args:=[.ptr 90004000 0,.i v62]) 1600000 1699999 [(2,.fn (.func 53) [.ptr 90004000 0] []),(12,.l cI a0.Results),(13,.i ((a0.Results.length:Int))),(14,.i s58.1)] rfl ⟨func53,rfl,by kernel_rfl⟩ rfl rfl rfl fun T16 ds16=>?_
   refine rn tk 6 rfl<|al1 hr (fun s64=>[(0,.ptr 90004000 0),(1,.i v62),(5,.i s64.1)]) (fun s64=>[(1699999,.sus g0.w.heap.size ds16),(1600002,.hold (.fn (.func 53) [.ptr 90004000 0] []) (T16.getD 2 undef)),(1600012,.hold (.l cI a0.Results) (T16.getD 12 undef)),(1600013,.hold (.i ((a0.Results.length:Int))) (T16.getD 13 undef)),(1600014,.hold (.i s58.1) (T16.getD 14 undef)),(90004000,.cells [.hs 90004001 0]),(90004001,.row 5 false 1 (List.map cU s64.2.out)),(1399999,.sus g0.w.heap.size ds13),(1300003,.hold (.ptr 3 0) (T13.getD 3 undef)),(3,.cells [.ptr 90004000 0])]) (.exit 0) (fun b65=>[]) (fun b65=>[(90004000,.cells [.hs 90004001 0]),(90004001,.row 5 false 1 (List.map cU b65.out)),(1699999,.sus g0.w.heap.size ds16),(1600002,.hold (.fn (.func 53) [.ptr 90004000 0] []) (T16.getD 2 undef)),(1600012,.hold (.l cI a0.Results) (T16.getD 12 undef)),(1600013,.hold (.i ((a0.Results.length:Int))) (T16.getD 13 undef)),(1600014,.hold (.i s58.1) (T16.getD 14 undef)),(1399999,.sus g0.w.heap.size ds13),(1300003,.hold (.ptr 3 0) (T13.getD 3 undef)),(3,.cells [.ptr 90004000 0])]) rfl rfl (fun s64 x66 hr=>?_) (fun b65 hr=>?_)
   .unfold Zra at hr;refine rn tk 6 rfl<|ac 6 hr rfl (fun c67 hr=>?_) (fun c67 hr=>?_)
    .refine rn tk 10 rfl ?_;obtain ⟨v68,h69,hr⟩:=zaa hr;obtain ⟨v70,h71,hr⟩:=zaa hr;refine drF 12 0 [(19,.l cU (([(toU8 ((uShr ((wu64 v62)) ((w64 (8 * s64.1))))))]:List UInt8))),(18,.u8 ((toU8 ((uShr ((wu64 v62)) ((w64 (8 * s64.1)))))))),(17,.pv (.b (.int .u64 ((uShr ((wu64 v62)) ((w64 (8 * s64.1)))))))),(16,.i ((w64 (8 * s64.1)))),(15,.i s64.1),(14,.pv (.b (.int .u64 ((wu64 v62))))),(13,.i v62),(12,.hs 90004001 0),(11,.ptr 90004000 0),(10,.ptr 90004000 0),(9,.ptr 90004000 0),(8,.ptr 90004000 0)] [(19,.l cU (([(toU8 ((uShr ((wu64 v62)) ((w64 (8 * s64.1))))))]:List UInt8))),(18,.u8 ((toU8 ((uShr ((wu64 v62)) ((w64 (8 * s64.1)))))))),(17,.pv (.b (.int .u64 ((uShr ((wu64 v62)) ((w64 (8 * s64.1)))))))),(16,.i ((w64 (8 * s64.1)))),(15,.i s64.1),(14,.pv (.b (.int .u64 ((wu64 v62))))),(13,.i v62),(12,.hs 90004001 0),(11,.ptr 90004000 0),(10,.ptr 90004000 0),(9,.ptr 90004000 0),(8,.any)] [(0,.ptr 90004000 0),(1,.i v62),(5,.i s64.1),(8,.ptr 90004000 0),(20,.hs 90004001 0)] [(1699999,.sus g0.w.heap.size ds16),(1600002,.hold (.fn (.func 53) [.ptr 90004000 0] []) (T16.getD 2 undef)),(1600012,.hold (.l cI a0.Results) (T16.getD 12 undef)),(1600013,.hold (.i ((a0.Results.length:Int))) (T16.getD 13 undef)),(1600014,.hold (.i s58.1) (T16.getD 14 undef)),(90004000,.cells [.any]),(90004001,.row 5 false 1 (List.map cU v70)),(1399999,.sus g0.w.heap.size ds13),(1300003,.hold (.ptr 3 0) (T13.getD 3 undef)),(3,.cells [.ptr 90004000 0])] mixed (by kernel_rfl) rfl rfl rfl rfl rfl (pqA tk rfl (.plain rfl) (pqA tk rfl (.plain rfl) (pqA tk rfl (.plain rfl) (pqA tk rfl (.plain rfl) (pqA tk rfl (.plain rfl) (pqA tk rfl (.plain rfl) (.run (.plain rfl) (zta (WFa rfl z7a kKa)) (pqA tk rfl (.plain rfl) (pqA tk rfl (.plain rfl) (.run (.plain rfl) (zta (k1b rfl rfl (KDa h69))) (.run (.plain rfl) (zta (JQa rfl kKa zNa)) (.run (.plain rfl) (yya (F:=cU) (l:=([(toU8 ((uShr ((wu64 v62)) ((w64 (8 * s64.1))))))]:List UInt8)) zoa zNa rfl (fun _=>rfl) rfl rfl) .nil)))))))))))) rfl rfl rfl rfl rfl (fun hJ=>?_) (fun hJ=>?_) ?_
     .refine wa tk h71 rfl rfl rfl rfl (fun _=>rfl) rfl rfl ?_;exact hJ _ _ rfl rfl
     .refine wa tk h71 rfl rfl rfl rfl (fun _=>rfl) rfl rfl<|rn tk 1 rfl ?_;exact hJ _ _ rfl rfl
     refine rn tk 10 rfl ?_;cases hr;exact atc rfl rfl
    refine rn tk 2 rfl ?_;cases hr;exact ato rfl rfl rfl rfl
   refine rn tk 1 rfl ?_;refine ie tk [] [(2,.fn (.func 53) [.ptr 90004000 0] []),(12,.l cI a0.Results),(13,.i ((a0.Results.length:Int))),(14,.i s58.1)] [(90004000,.cells [.hs 90004001 0]),(90004001,.row 5 false 1 (List.map cU b65.out)),(1399999,.sus g0.w.heap.size ds13),(1300003,.hold (.ptr 3 0) (T13.getD 3 undef)),(3,.cells [.ptr 90004000 0])] (.inl rfl) rfl rfl rfl rfl (hO ?_);refine rn tk 7 rfl ?_;cases hr;exact atc rfl rfl
  refine rn tk 2 rfl ?_;cases hr;exact ato rfl rfl rfl rfl
 refine rn tk 1 rfl ?_;refine ie tk [] [(3,.ptr 3 0)] [(90004000,.cells [.hs 90004001 0]),(90004001,.row 5 false 1 (List.map cU b59.out)),(3,.cells [.ptr 90004000 0])] (.inl rfl) rfl rfl rfl rfl (hO ?_);refine rn tk 11 rfl ?_;refine vxa (d:=2) (F:=cU) (l:=b59.out) rfl rfl (hC ?_);refine rn tk 1 rfl ?_;cases hr;exact kr tk (.inr rfl) rfl rfl
theorem zub(a0:List UInt8)(r:Int)(hr:Z6a a0=some r):Run prog 54 [.l cU a0] (.pv (.b (.int .u64 r))):=by
 unfold Z6a at hr;refine rf (fn:=f54) ⟨func54,rfl,by kernel_rfl⟩ rfl (fun _=>rfl) fun g0 hg=>?_
 refine rn tk 14 rfl<|wn tk rfl rfl rfl<|rn tk 4 rfl<|al1 hr (fun s1=>[(3,.pv (.b (.int .u64 s1.1))),(6,.l cU a0),(7,.i ((a0.length:Int))),(8,.i s1.2)]) (fun s1=>[]) (.exit 0) (fun b2=>[(3,.pv (.b (.int .u64 b2)))]) (fun b2=>[]) rfl rfl (fun s1 x3 hr=>?_) (fun b2 hr=>?_)
 .unfold yta at hr;refine rn tk 6 rfl<|ac 9 hr rfl (fun c4 hr=>?_) (fun c4 hr=>?_)
  .refine rn tk 6 rfl ?_;obtain ⟨v5,h6,hr⟩:=zaa hr;refine wi tk h6 rfl rfl rfl rfl rfl<|rn tk 7 rfl<|wq (KEa rfl zNa kKa) rfl rfl rfl<|wq (wMb rfl rfl) rfl rfl rfl<|wq (kZb rfl rfl) rfl rfl rfl<|rn tk 8 rfl ?_;cases hr;exact atc rfl rfl
  refine rn tk 2 rfl ?_;cases hr;exact ato rfl rfl rfl rfl
 refine rn tk 9 rfl ?_;cases hr;exact kr tk (.inr rfl) rfl rfl
theorem ZLa(a0:zha)(r:List UInt8)(hr:wva a0=some r):Run prog 26 [.agg [.i a0.Kind,.i a0.Now,.s a0.Mail.Envelope.From,.l zba.pc a0.Mail.Envelope.To,.s a0.Mail.Envelope.Id,.l zea.pc a0.Mail.Message.Fields,.l cU a0.Mail.Message.Body,.i a0.Attempt.Entry,.s a0.Attempt.Domain,.l cI a0.Attempt.To,.l cI a0.Results]] (.l cU r):=by
 unfold wva at hr;refine rf (fn:=f26) ⟨func26,rfl,by kernel_rfl⟩ rfl (fun _=>rfl) fun g0 hg=>?_
 refine rn tk 9 rfl<|wo (Kxa (k:=6) 90004000 rfl rfl rfl rfl rfl) rfl<|rn tk 1 rfl ?_;refine woa 90004001 (o:=90004000) (j:=0) 5 1 rfl rfl rfl rfl (hO ?_);refine rn tk 5 rfl ?_;obtain ⟨v1,h2,hr⟩:=zaa hr;refine cl (YOa _ _ h2) rfl rfl<|rn tk 7 rfl<|wb tk rfl rfl rfl ?_;obtain ⟨v3,h4,hr⟩:=zaa hr;refine wo (zUa (k:=12) (kha ((zma.mk (([]:List UInt8)))) v1 v3 h4) rfl rfl (zda rfl (zda rfl zna))) rfl<|rn tk 6 rfl ?_;obtain ⟨v5,h6,hr⟩:=zaa hr;refine cl (zub _ _ h6) rfl rfl<|wq (jPa rfl kKa z7a) rfl rfl rfl ?_;obtain ⟨v7,h8,hr⟩:=zaa hr;refine wo (zUa (k:=17) (zRa v3 ((w64 v5)) v7 h8) rfl rfl (zda rfl (zda rfl zna))) rfl<|rn tk 11 rfl ?_;refine vxa (d:=2) (F:=cU) (l:=v7.out) rfl rfl (hC ?_);refine rn tk 1 rfl ?_;cases hr;exact kr tk (.inr rfl) rfl rfl
theorem ZMa(a0:List UInt8)(a1:zha)(r:(List UInt8) × zqa)(hr:q8a a0 a1=some r):Run prog 8 [.l cU a0,.agg [.i a1.Kind,.i a1.Now,.s a1.Mail.Envelope.From,.l zba.pc a1.Mail.Envelope.To,.s a1.Mail.Envelope.Id,.l zea.pc a1.Mail.Message.Fields,.l cU a1.Mail.Message.Body,.i a1.Attempt.Entry,.s a1.Attempt.Domain,.l cI a1.Attempt.To,.l cI a1.Results]] (.tup [.l cU r.1,.agg [.i r.2.Code,.i r.2.Index]]):=by
 unfold q8a at hr;refine rf (fn:=f8) ⟨func8,rfl,by kernel_rfl⟩ rfl (fun _=>rfl) fun g0 hg=>?_
 refine rn tk 11 rfl<|wn tk rfl rfl rfl<|rn tk 3 rfl<|ac 10 hr rfl (fun c1 hr=>?_) (fun c1 hr=>?_)
 .refine rn tk 2 rfl ?_;obtain ⟨v2,h3,hr⟩:=zaa hr;refine cl (zka _ _ _ h3) rfl rfl<|rn tk 6 rfl ?_;cases hr;exact kr tk (.inr rfl) rfl rfl
 refine rn tk 6 rfl ?_;obtain ⟨v4,h5,hr⟩:=zaa hr;refine cl (jka _ _ h5) rfl rfl<|rn tk 7 rfl ?_;obtain ⟨v6,h7,hr⟩:=zaa hr;refine cl (zPa _ _ h7) rfl rfl<|rn tk 2 rfl<|ac 15 hr rfl (fun c8 hr=>?_) (fun c8 hr=>?_)
 .refine rn tk 1 rfl<|dr 2 [(4,.pv (.sl (some true) [])),(16,.agg [.i v4.Code,.i v4.Index])] mixed (by kernel_rfl) rfl rfl (pq tk rfl (.plain rfl) (pq tk rfl (.plain rfl) .nil)) rfl<|rn tk 5 rfl ?_;cases hr;exact kr tk (.inr rfl) rfl rfl
 refine rn tk 6 rfl ?_;obtain ⟨v9,h10,hr⟩:=zaa hr;refine cl (ZLa _ _ h10) rfl rfl<|wz (cL cU) ([a0,v9]:List (List UInt8)) tk rfl rfl (fun _=>rfl) rfl rfl rfl ?_;obtain ⟨v11,h12,hr⟩:=zaa hr;refine cl (jia _ _ h12) rfl rfl<|rn tk 7 rfl<|wn tk rfl rfl rfl<|rn tk 3 rfl<|ac 24 hr rfl (fun c13 hr=>?_) (fun c13 hr=>?_)
 .refine rn tk 2 rfl ?_;obtain ⟨v14,h15,hr⟩:=zaa hr;refine cl (zka _ _ _ h15) rfl rfl<|rn tk 6 rfl ?_;cases hr;exact kr tk (.inr rfl) rfl rfl
 refine rn tk 5 rfl ?_;obtain ⟨v16,h17,hr⟩:=zaa hr;refine cl (zWa _ h17) rfl rfl<|rn tk 5 rfl ?_;cases hr;exact kr tk (.inr rfl) rfl rfl
theorem Yma(a0:List UInt8)(a1:List UInt8)(r:Bool)(hr:w4a a0 a1=some r):Run prog 105 [.l cU a0,.l cU a1] (.bo r):=by
 unfold w4a at hr;refine jKa (fn:=f105) ⟨func105,rfl,by kernel_rfl⟩ rfl (fun _=>rfl) fun g0 hg=>?_
 refine vCa ?_;refine kOa ?_;refine zIa rfl (zKa (d:=4) rfl rfl qAa) ?_;refine qsa<|kra ?_;refine vCa ?_;refine kOa ?_;refine zIa rfl (zKa (d:=5) rfl rfl kVa) ?_;refine zIa rfl (zKa (d:=6) rfl rfl (jLa rfl zoa zNa z2a)) ?_;refine zIa rfl (zKa (d:=7) rfl rfl kVa) ?_;refine zIa rfl (zKa (d:=8) rfl rfl (jLa rfl zoa zNa z2a)) ?_;refine zIa rfl (zKa (d:=9) rfl rfl (vZb (a:=a0) (b:=a1) rfl rfl)) ?_;refine zIa rfl (zKa (d:=4) rfl rfl qAa) ?_;refine qsa<|kra ?_;refine Vca ?_;cases hr;exact v2b rfl (.cons (Vha rfl) .nil) rfl
theorem Qqa(a0:List UInt8)(a1:List UInt8)(r:Bool)(hr:qpa a0 a1=some r):Run prog 61 [.l cU a0,.l cU a1] (.bo r):=by
 unfold qpa at hr;refine jKa (fn:=f61) ⟨func61,rfl,by kernel_rfl⟩ rfl (fun _=>rfl) fun g0 hg=>?_
 refine vCa ?_;refine kOa ?_;refine zIa rfl (zKa (d:=4) rfl rfl qAa) ?_;refine qsa<|kra ?_;obtain ⟨j1,hx,hy⟩:=zaa hr;refine Wga (fun j1=>[(4,.bo j1)]) (fun j1=>[]) (fun z=>j1=z) ?_ ?_
 .have hr:=hx;clear hx hy;refine kOa ?_;refine zIa rfl (zKa (d:=5) rfl rfl kVa) ?_;refine zIa rfl (zKa (d:=6) rfl rfl (qaa (f:=cU) rfl zoa.u)) ?_;refine zIa rfl (zKa (d:=7) rfl rfl kVa) ?_;refine zIa rfl (zKa (d:=8) rfl rfl (qaa (f:=cU) rfl zoa.u)) ?_;refine zIa rfl (zKa (d:=9) rfl rfl (vYb rfl rfl)) ?_;refine zIa rfl (zKa (d:=10) rfl rfl kVa)<|qka (decide ((a1.length:Int)<=(a0.length:Int))) (fun c2=>?_) (fun c2=>?_)
  .replace hr:=yWa c2 hr
   refine yIa (d:=10) rfl rfl rfl c2 (zKa (d:=11) rfl rfl kVa) ?_;refine yIa (d:=10) rfl rfl rfl c2 (zKa (d:=12) rfl rfl kVa) ?_;refine yIa (d:=10) rfl rfl rfl c2 (zKa (d:=13) rfl rfl (qaa (f:=cU) rfl zoa.u)) ?_;obtain ⟨v3,h4,hr⟩:=zaa hr;refine yIa (d:=10) rfl rfl rfl c2 (zKa (d:=14) rfl rfl (Wwa (F:=cU) rfl rfl zoa zNa (fun _=>rfl) h4)) ?_;refine yIa (d:=10) rfl rfl rfl c2 (zKa (d:=15) rfl rfl kVa) ?_;obtain ⟨v5,h6,hr⟩:=zaa hr;refine yIa (d:=10) rfl rfl rfl c2 (Wva (k:=16) (Yma v3 a1 v5 h6) rfl rfl) ?_;refine zIa rfl (zKa (d:=17) rfl rfl (zya rfl c2)) ?_;refine zIa rfl (zKa (d:=4) rfl rfl qAa) ?_;refine qsa ?_;cases hr;exact jqa _ rfl (zga rfl z1a) zna
  replace hr:=yXa c2 hr
  refine jDa (d:=10) rfl rfl rfl c2 ?_;refine jDa (d:=10) rfl rfl rfl c2 ?_;refine jDa (d:=10) rfl rfl rfl c2 ?_;refine jDa (d:=10) rfl rfl rfl c2 ?_;refine jDa (d:=10) rfl rfl rfl c2 ?_;refine jDa (d:=10) rfl rfl rfl c2 ?_;refine zIa rfl (zKa (d:=17) rfl rfl (vDa rfl c2)) ?_;refine zIa rfl (zKa (d:=4) rfl rfl qAa) ?_;refine qsa ?_;cases hr;exact jqa _ rfl (zga rfl z1a) zna
 rintro _ rfl;have hr:=hy;clear hx hy;refine Vca ?_;cases hr;exact v2b rfl (.cons (Vha rfl) .nil) rfl
theorem yda{E:Env}{FR:Fr}{σ:Sto}{ty:TypeId}{pos:String}{af:Array Edge}{gu:Option (Nat × Bool)}{f:FuncId}{k:Nat}{xs:List Operand}{ats:Array TypeId}{args:List AV}{r:AV}{σ0 σ1:Sto}{O:Nat}{rows:List Nat}(hr:RunS E.P f args σ0 r σ1 O rows)(hN:Nat.ble (k+1) E.N=true)(ha:xs.map (fun x=>(FR.ev x).weak)=args)(hle:kBa σ σ0):
 HvD E ⟨some k,.call ⟨.value (.func f),xs.toArray,ats⟩,ty,pos,af,gu⟩ FR σ k r rows (σ1++(σ.dels (O::rows)).clrs rows):=
 ⟨fun fr he _=>zUa hr hN (by
  rw[<-ha];refine List.map_congr_left fun x hx=>?_
  rw[he x (by simp[Op.operands,Call.operands,hx])]) hle⟩
theorem kwb{E:Env}{o:Oper}{FR:Fr}{σ:Sto}{e b:Bool}(h:e=b)(x:OpG E o FR σ (.pv (.b (.bool e)))):OpG E o FR σ (.pv (.b (.bool b))):=h▸x
theorem zCa(a0:zja)(r:Int × zja)(hr:zDa a0=some r):RunS prog 59 [.ptr 90005000 0] [(90005000,.cells [.l cU a0.b,.bo a0.bad])] (.i r.1) [(90005000,.cells [.l cU r.2.b,.bo r.2.bad])] 90005000 []:=by
 unfold zDa at hr;refine rfS (fn:=f59) (H:=90005999) (.ptr 90005000 0) ⟨func59,rfl,by kernel_rfl⟩ rfl (hasT rfl) (.inl ⟨rfl,rfl⟩) rfl rfl rfl rfl fun g0 hg S sg T=>?_
 refine rn tk 12 rfl<|wn tk rfl rfl rfl<|rn tk 3 rfl<|ac 10 hr rfl (fun c1 hr=>?_) (fun c1 hr=>?_)
 .refine rn tk 19 rfl ?_;cases hr;exact krS tk (.inr rfl) rfl rfl (zda rfl (Vda rfl rfl zna))
 refine rn tk 14 rfl<|al1 hr (fun s2=>[(0,.ptr 90005000 0),(3,.pv (.b (.int .u64 s2.1))),(17,.i s2.2)]) (fun s2=>[(90005999,.hold (.ptr 90005000 0) (T.getD 0 undef)),(90005000,.cells [.l cU a0.b,.bo a0.bad])]) (.exit 0) (fun b3=>[(0,.ptr 90005000 0),(3,.pv (.b (.int .u64 b3)))]) (fun b3=>[(90005999,.hold (.ptr 90005000 0) (T.getD 0 undef)),(90005000,.cells [.l cU a0.b,.bo a0.bad])]) rfl rfl (fun s2 x4 hr=>?_) (fun b3 hr=>?_)
 .unfold kCa at hr;refine rn tk 6 rfl<|ac 18 hr rfl (fun c5 hr=>?_) (fun c5 hr=>?_)
  .refine rn tk 17 rfl ?_;obtain ⟨v6,h7,hr⟩:=zaa hr;refine wi tk h7 rfl rfl rfl rfl rfl<|rn tk 1 rfl<|wq (KEa rfl zNa kKa) rfl rfl rfl<|rn tk 2 rfl ?_;obtain ⟨v8,h9,hr⟩:=zaa hr;refine wq (k0b rfl rfl (KDa h9)) rfl rfl rfl<|wq (wLb rfl rfl) rfl rfl rfl<|rn tk 8 rfl ?_;cases hr;exact atc rfl rfl
  refine rn tk 2 rfl ?_;cases hr;exact ato rfl rfl rfl rfl
 refine rn tk 9 rfl ?_;obtain ⟨v10,h11,hr⟩:=zaa hr;refine wlL tk h11 rfl rfl rfl (fun _=>rfl) rfl<|rn tk 8 rfl<|wq (jPa rfl kKa z7a) rfl rfl rfl<|rn tk 4 rfl ?_;cases hr;exact krS tk (.inr rfl) rfl rfl (zda rfl (zda rfl zna))
theorem kia(a0:zja)(r:Str × zja)(hr:z5a a0=some r):RunS prog 58 [.ptr 90005000 0] [(90005000,.cells [.l cU a0.b,.bo a0.bad])] (.s r.1) [(90005000,.cells [.l cU r.2.b,.bo r.2.bad])] 90005000 []:=by
 unfold z5a at hr;refine rfS (fn:=f58) (H:=90005999) (.ptr 90005000 0) ⟨func58,rfl,by kernel_rfl⟩ rfl (hasT rfl) (.inl ⟨rfl,rfl⟩) rfl rfl rfl rfl fun g0 hg S sg T=>?_
 refine rn tk 8 rfl ?_;obtain ⟨v1,h2,hr⟩:=zaa hr;refine wo (zUa (k:=6) (zCa a0 v1 h2) rfl rfl (zda rfl zna)) rfl<|rn tk 4 rfl<|jb hr (fun j3=>[(0,.ptr 90005000 0),(3,.i v1.1),(17,.bo j3)]) (fun j3=>[(90005000,.cells [.l cU v1.2.b,.bo v1.2.bad]),(90005999,.hold (.ptr 90005000 0) (T.getD 0 undef))]) (fun j3 hr=>?_) (fun j3 hr=>?_)
 .refine rn tk 4 rfl<|bs 9 hr rfl (fun c4 hr=>?_) (fun c4 hr=>?_)
  .refine rn tk 9 rfl ?_;cases hr;exact jn _ rfl rfl rfl
  refine rn tk 5 rfl<|ug rfl rfl rfl<|wn tk rfl rfl rfl<|rn tk 3 rfl ?_;cases hr;exact jn _ rfl rfl rfl
 refine ac 17 hr rfl (fun c5 hr=>?_) (fun c5 hr=>?_)
 .refine rn tk 19 rfl ?_;cases hr;exact krS tk (.inr rfl) rfl rfl (zda rfl (Vda rfl rfl zna))
 refine rn tk 9 rfl ?_;obtain ⟨v6,h7,hr⟩:=zaa hr;refine wlH tk h7 rfl rfl rfl (fun _=>rfl) rfl<|wb tk rfl rfl rfl<|rn tk 11 rfl ?_;obtain ⟨v8,h9,hr⟩:=zaa hr;refine wlL tk h9 rfl rfl rfl (fun _=>rfl) rfl<|rn tk 12 rfl ?_;cases hr;exact krS tk (.inr rfl) rfl rfl (zda rfl (zda rfl zna))
theorem YPa(a0:List UInt8)(r:zha × Bool)(hr:j3a a0=some r):Run prog 60 [.l cU a0] (.tup [.agg [.i r.1.Kind,.i r.1.Now,.s r.1.Mail.Envelope.From,.l zba.pc r.1.Mail.Envelope.To,.s r.1.Mail.Envelope.Id,.l zea.pc r.1.Mail.Message.Fields,.l cU r.1.Mail.Message.Body,.i r.1.Attempt.Entry,.s r.1.Attempt.Domain,.l cI r.1.Attempt.To,.l cI r.1.Results],.bo r.2]):=by
 unfold j3a at hr;refine rf (fn:=f60) ⟨func60,rfl,by kernel_rfl⟩ rfl (fun _=>rfl) fun g0 hg=>?_
 refine rn tk 10 rfl<|wo (Kxa (k:=9) 90005000 rfl rfl rfl rfl rfl) rfl<|rn tk 5 rfl ?_;obtain ⟨v1,h2,hr⟩:=zaa hr;obtain ⟨v3,h4,hr⟩:=zaa hr;refine Y7a [some (.ptr 90005000 0),none,some (.ptr 90005000 0),none,some (.agg [.i v1.1,.i v3.1,.s (([]:Str)),.pv (.sl (some true) []),.s (([]:Str)),.pv (.sl (some true) []),.pv (.sl (some true) []),.i 0,.s (([]:Str)),.pv (.sl (some true) []),.pv (.sl (some true) [])]),none,none] [((bt 7 0),[(2,.ptr 2 0),(4,.ptr 4 0)],[(4,.cells [.ptr 90005000 0]),(90005000,.cells [.l cU a0,.bo false]),(2,.cells [.i 0,.i 0,.s (([]:Str)),.pv (.sl (some true) []),.s (([]:Str)),.pv (.sl (some true) []),.pv (.sl (some true) []),.i 0,.s (([]:Str)),.pv (.sl (some true) []),.pv (.sl (some true) [])])]),((bt 7 2),[(2,.ptr 2 0),(4,.ptr 4 0),(11,.i v1.1)],[(90005000,.cells [.l cU v1.2.b,.bo v1.2.bad]),(4,.cells [.ptr 90005000 0]),(2,.cells [.i 0,.i 0,.s (([]:Str)),.pv (.sl (some true) []),.s (([]:Str)),.pv (.sl (some true) []),.pv (.sl (some true) []),.i 0,.s (([]:Str)),.pv (.sl (some true) []),.pv (.sl (some true) [])])]),((bt 7 32),[(2,.ptr 2 0),(4,.ptr 4 0),(5,.ptr 5 0)],[(5,.cells [.i 0,.i 0,.s (([]:Str)),.pv (.sl (some true) []),.s (([]:Str)),.pv (.sl (some true) []),.pv (.sl (some true) []),.i 0,.s (([]:Str)),.pv (.sl (some true) []),.pv (.sl (some true) [])]),(4,.cells [.ptr 90005000 0]),(90005000,.cells [.l cU a0,.bo false]),(2,.cells [.i 0,.i 0,.s (([]:Str)),.pv (.sl (some true) []),.s (([]:Str)),.pv (.sl (some true) []),.pv (.sl (some true) []),.i 0,.s (([]:Str)),.pv (.sl (some true) []),.pv (.sl (some true) [])])]),((bt 7 10),[(2,.ptr 2 0),(4,.ptr 4 0),(11,.i v1.1),(13,.i v3.1)],[(90005000,.cells [.l cU v3.2.b,.bo v3.2.bad]),(4,.cells [.ptr 90005000 0]),(2,.cells [.i 0,.i 0,.s (([]:Str)),.pv (.sl (some true) []),.s (([]:Str)),.pv (.sl (some true) []),.pv (.sl (some true) []),.i 0,.s (([]:Str)),.pv (.sl (some true) []),.pv (.sl (some true) [])])]),((bt 7 34),[(2,.ptr 2 0),(4,.ptr 4 0),(5,.ptr 5 0),(11,.i v1.1)],[(5,.cells [.i 0,.i 0,.s (([]:Str)),.pv (.sl (some true) []),.s (([]:Str)),.pv (.sl (some true) []),.pv (.sl (some true) []),.i 0,.s (([]:Str)),.pv (.sl (some true) []),.pv (.sl (some true) [])]),(90005000,.cells [.l cU v1.2.b,.bo v1.2.bad]),(4,.cells [.ptr 90005000 0]),(2,.cells [.i 0,.i 0,.s (([]:Str)),.pv (.sl (some true) []),.s (([]:Str)),.pv (.sl (some true) []),.pv (.sl (some true) []),.i 0,.s (([]:Str)),.pv (.sl (some true) []),.pv (.sl (some true) [])])]),((bt 7 42),[(2,.ptr 2 0),(4,.ptr 4 0),(5,.ptr 5 0),(11,.i v1.1),(13,.i v3.1)],[(5,.cells [.i 0,.i 0,.s (([]:Str)),.pv (.sl (some true) []),.s (([]:Str)),.pv (.sl (some true) []),.pv (.sl (some true) []),.i 0,.s (([]:Str)),.pv (.sl (some true) []),.pv (.sl (some true) [])]),(90005000,.cells [.l cU v3.2.b,.bo v3.2.bad]),(4,.cells [.ptr 90005000 0]),(2,.cells [.i 0,.i 0,.s (([]:Str)),.pv (.sl (some true) []),.s (([]:Str)),.pv (.sl (some true) []),.pv (.sl (some true) []),.i 0,.s (([]:Str)),.pv (.sl (some true) []),.pv (.sl (some true) [])])]),((bt 7 106),[(2,.ptr 2 0),(4,.ptr 4 0),(5,.ptr 5 0),(11,.i v1.1),(13,.i v3.1)],[(5,.cells [.i v1.1,.i v3.1,.s (([]:Str)),.pv (.sl (some true) []),.s (([]:Str)),.pv (.sl (some true) []),.pv (.sl (some true) []),.i 0,.s (([]:Str)),.pv (.sl (some true) []),.pv (.sl (some true) [])]),(90005000,.cells [.l cU v3.2.b,.bo v3.2.bad]),(4,.cells [.ptr 90005000 0]),(2,.cells [.i 0,.i 0,.s (([]:Str)),.pv (.sl (some true) []),.s (([]:Str)),.pv (.sl (some true) []),.pv (.sl (some true) []),.i 0,.s (([]:Str)),.pv (.sl (some true) []),.pv (.sl (some true) [])])])] mixed (by kernel_rfl) rfl rfl (fc rfl (fc rfl fn)) (sc2 rfl (sc2 rfl (sc2 rfl sn))) (.cons (.step [0,1,2,5] (by kernel_rfl) (by kernel_rfl) (.cons (.pure rfl rfl (mqz tk rfl)) (.cons (.dst 1 rfl rfl (by kernel_rfl) rfl (yda (zCa ((zja.mk a0 false)) v1 h2) rfl rfl (zda rfl zna)) rfl (fc rfl (fc rfl (fc rfl fn))) (sc2 rfl (sc2 rfl (sc2 rfl sn)))) (.cons (.pure rfl rfl (mqz tk rfl)) (.cons (.dst 2 rfl rfl (by kernel_rfl) rfl (JOa 5 rfl qGa (.inr ⟨rfl,rfl⟩) rfl rfl rfl) rfl (fc rfl (fc rfl (fc rfl fn))) (sc2 rfl (sc2 rfl (sc2 rfl (sc2 rfl sn))))) .nil))))) (.cons (.step [2,3,5] (by kernel_rfl) (by kernel_rfl) (.cons (.pure rfl rfl (mqz tk rfl)) (.cons (.dst 3 rfl rfl (by kernel_rfl) rfl (yda (zCa v1.2 v3 h4) rfl rfl (zda rfl zna)) rfl (fc rfl (fc rfl (fc rfl (fc rfl fn)))) (sc2 rfl (sc2 rfl (sc2 rfl sn)))) (.cons (.dst 4 rfl rfl (by kernel_rfl) rfl (JOa 5 rfl qGa (.inr ⟨rfl,rfl⟩) rfl rfl rfl) rfl (fc rfl (fc rfl (fc rfl (fc rfl fn)))) (sc2 rfl (sc2 rfl (sc2 rfl (sc2 rfl sn))))) .nil)))) (.cons (.step [0,1,2] (by kernel_rfl) (by kernel_rfl) (.cons (.pure rfl rfl (mqz tk rfl)) (.cons (.dst 4 rfl rfl (by kernel_rfl) rfl (yda (zCa ((zja.mk a0 false)) v1 h2) rfl rfl (zda rfl zna)) rfl (fc rfl (fc rfl (fc rfl (fc rfl fn)))) (sc2 rfl (sc2 rfl (sc2 rfl (sc2 rfl sn))))) (.cons (.pure rfl rfl (mqz tk rfl)) .nil)))) (.cons (.step [4,5] (by kernel_rfl) (by kernel_rfl) (.cons (.pure rfl rfl (mqz tk rfl)) (.cons (.dst 5 rfl rfl (by kernel_rfl) rfl (JOa 5 rfl qGa (.inr ⟨rfl,rfl⟩) rfl rfl rfl) rfl (fc rfl (fc rfl (fc rfl (fc rfl (fc rfl fn))))) (sc2 rfl (sc2 rfl (sc2 rfl (sc2 rfl sn))))) .nil))) (.cons (.step [2,3] (by kernel_rfl) (by kernel_rfl) (.cons (.pure rfl rfl (mqz tk rfl)) (.cons (.dst 5 rfl rfl (by kernel_rfl) rfl (yda (zCa v1.2 v3 h4) rfl rfl (zda rfl zna)) rfl (fc rfl (fc rfl (fc rfl (fc rfl (fc rfl fn))))) (sc2 rfl (sc2 rfl (sc2 rfl (sc2 rfl sn))))) .nil))) (.cons (.step [4,6] (by kernel_rfl) (by kernel_rfl) (.cons (.pure rfl rfl (mqz tk rfl)) (.cons (.sto 6 rfl rfl (KCa rfl rfl rfl qGa rfl rfl) rfl (fc rfl (fc rfl (fc rfl (fc rfl (fc rfl fn))))) (sc2 rfl (sc2 rfl (sc2 rfl (sc2 rfl sn))))) .nil))) (.cons (.full (frJ:=[(2,.ptr 2 0),(4,.ptr 4 0),(5,.ptr 5 0)]) (σJ:=[(5,.cells [.i v1.1,.i v3.1,.s (([]:Str)),.pv (.sl (some true) []),.s (([]:Str)),.pv (.sl (some true) []),.pv (.sl (some true) []),.i 0,.s (([]:Str)),.pv (.sl (some true) []),.pv (.sl (some true) [])]),(90005000,.cells [.l cU v3.2.b,.bo v3.2.bad]),(4,.cells [.ptr 90005000 0]),(2,.cells [.i 0,.i 0,.s (([]:Str)),.pv (.sl (some true) []),.s (([]:Str)),.pv (.sl (some true) []),.pv (.sl (some true) []),.i 0,.s (([]:Str)),.pv (.sl (some true) []),.pv (.sl (some true) [])])]) [] (by kernel_rfl) .nil (fc rfl (fc rfl (fc rfl fn))) (sc2 rfl (sc2 rfl (sc2 rfl (sc2 rfl sn)))) (hA ?_)) .nil)))))));refine rn tk 1 rfl<|jb hr (fun j5=>[(2,.ptr 2 0),(4,.ptr 4 0),(5,.ptr 5 0)]) (fun j5=>[(90005000,.cells [.l cU j5.1.b,.bo j5.1.bad]),(5,.cells [.i j5.2.Kind,.i j5.2.Now,.s j5.2.Mail.Envelope.From,.l zba.pc j5.2.Mail.Envelope.To,.s j5.2.Mail.Envelope.Id,.l zea.pc j5.2.Mail.Message.Fields,.l cU j5.2.Mail.Message.Body,.i j5.2.Attempt.Entry,.s j5.2.Attempt.Domain,.l cI j5.2.Attempt.To,.l cI j5.2.Results]),(4,.cells [.ptr 90005000 0]),(2,.cells [.i 0,.i 0,.s (([]:Str)),.l zba.pc ([]),.s (([]:Str)),.l zea.pc ([]),.l cU ([]),.i 0,.s (([]:Str)),.l cI ([]),.l cI ([])])]) (fun j5 hr=>?_) (fun j5 hr=>?_)
 .refine rn tk 7 rfl<|ac 17 hr rfl (fun c6 hr=>?_) (fun c6 hr=>?_)
  .refine rn tk 11 rfl ?_;obtain ⟨v7,h8,hr⟩:=zaa hr;refine wo (zUa (k:=22) (kia v3.2 v7 h8) rfl rfl (zda rfl zna)) rfl<|rn tk 10 rfl<|il (fn:=Tryz.f100) (args:=[.ptr 90005000 0,.fn (.func 101) [] [.ptr 4 0]]) 2100000 2199999 [(2,.ptr 2 0),(4,.ptr 4 0),(5,.ptr 5 0),(6,.ptr 5 2),(25,.ptr 5 2)] rfl ⟨func100,rfl,by kernel_rfl⟩ rfl rfl rfl fun T21 ds21=>?_
   refine rn tk 8 rfl ?_;obtain ⟨v9,h10,hr⟩:=zaa hr;refine wo (zUa (k:=9) (zCa v7.2 v9 h10) rfl rfl (zda rfl zna)) rfl<|rn tk 6 rfl ?_;refine qja 1006 (d:=6) 78 2 rfl rfl rfl (hO ?_);refine rn tk 9 rfl<|al1 hr (fun s11=>[(0,.ptr 90005000 0),(1,.fn (.func 101) [] [.ptr 4 0]),(5,.i v9.1),(6,.hs 1006 0),(7,.i s11.1)]) (fun s11=>[(1006,.row 78 false 2 (List.map zba.pc s11.2.2)),(90005000,.cells [.l cU s11.2.1.b,.bo s11.2.1.bad]),(2199999,.sus g0.w.heap.size ds21),(2100002,.hold (.ptr 2 0) (T21.getD 2 undef)),(2100004,.hold (.ptr 4 0) (T21.getD 4 undef)),(2100005,.hold (.ptr 5 0) (T21.getD 5 undef)),(2100006,.hold (.ptr 5 2) (T21.getD 6 undef)),(2100025,.hold (.ptr 5 2) (T21.getD 25 undef)),(5,.cells [.i v1.1,.i v3.1,.s v7.1,.l zba.pc ([]),.s (([]:Str)),.l zea.pc ([]),.l cU ([]),.i 0,.s (([]:Str)),.l cI ([]),.l cI ([])]),(4,.cells [.ptr 90005000 0]),(2,.cells [.i 0,.i 0,.s (([]:Str)),.l zba.pc ([]),.s (([]:Str)),.l zea.pc ([]),.l cU ([]),.i 0,.s (([]:Str)),.l cI ([]),.l cI ([])])]) (.exit 0) (fun b12=>[(6,.hs 1006 0)]) (fun b12=>[(90005000,.cells [.l cU b12.1.b,.bo b12.1.bad]),(1006,.row 78 false 2 (List.map zba.pc b12.2)),(2199999,.sus g0.w.heap.size ds21),(2100002,.hold (.ptr 2 0) (T21.getD 2 undef)),(2100004,.hold (.ptr 4 0) (T21.getD 4 undef)),(2100005,.hold (.ptr 5 0) (T21.getD 5 undef)),(2100006,.hold (.ptr 5 2) (T21.getD 6 undef)),(2100025,.hold (.ptr 5 2) (T21.getD 25 undef)),(5,.cells [.i v1.1,.i v3.1,.s v7.1,.l zba.pc ([]),.s (([]:Str)),.l zea.pc ([]),.l cU ([]),.i 0,.s (([]:Str)),.l cI ([]),.l cI ([])]),(4,.cells [.ptr 90005000 0]),(2,.cells [.i 0,.i 0,.s (([]:Str)),.l zba.pc ([]),.s (([]:Str)),.l zea.pc ([]),.l cU ([]),.i 0,.s (([]:Str)),.l cI ([]),.l cI ([])])]) rfl rfl (fun s11 x13 hr=>?_) (fun b12 hr=>?_)
   .unfold vea at hr;refine rn tk 1 rfl<|jb hr (fun j14=>[(0,.ptr 90005000 0),(1,.fn (.func 101) [] [.ptr 4 0]),(5,.i v9.1),(6,.hs 1006 0),(7,.i s11.1),(19,.bo j14)]) (fun j14=>[(1006,.row 78 false 2 (List.map zba.pc s11.2.2)),(90005000,.cells [.l cU s11.2.1.b,.bo s11.2.1.bad]),(2199999,.sus g0.w.heap.size ds21),(2100002,.hold (.ptr 2 0) (T21.getD 2 undef)),(2100004,.hold (.ptr 4 0) (T21.getD 4 undef)),(2100005,.hold (.ptr 5 0) (T21.getD 5 undef)),(2100006,.hold (.ptr 5 2) (T21.getD 6 undef)),(2100025,.hold (.ptr 5 2) (T21.getD 25 undef)),(5,.cells [.i v1.1,.i v3.1,.s v7.1,.l zba.pc ([]),.s (([]:Str)),.l zea.pc ([]),.l cU ([]),.i 0,.s (([]:Str)),.l cI ([]),.l cI ([])]),(4,.cells [.ptr 90005000 0]),(2,.cells [.i 0,.i 0,.s (([]:Str)),.l zba.pc ([]),.s (([]:Str)),.l zea.pc ([]),.l cU ([]),.i 0,.s (([]:Str)),.l cI ([]),.l cI ([])])]) (fun j14 hr=>?_) (fun j14 hr=>?_)
    .refine rn tk 5 rfl<|bs 13 hr rfl (fun c15 hr=>?_) (fun c15 hr=>?_)
     .refine rn tk 7 rfl ?_;cases hr;exact jn _ rfl rfl rfl
     refine rn tk 7 rfl ?_;cases hr;exact jn _ rfl rfl rfl
    refine ac 19 hr rfl (fun c16 hr=>?_) (fun c16 hr=>?_)
    .refine rn tk 7 rfl<|il (fn:=f101) (args:=[.ptr 4 0]) 2500000 2599999 [(0,.ptr 90005000 0),(1,.fn (.func 101) [] [.ptr 4 0]),(5,.i v9.1),(7,.i s11.1),(22,.hs 1006 0)] rfl ⟨func101,rfl,by kernel_rfl⟩ rfl rfl rfl fun T25 ds25=>?_
     refine rn tk 6 rfl ?_;obtain ⟨v17,h18,hr⟩:=zaa hr;obtain ⟨v19,h20,hr⟩:=zaa hr;refine mz [some (.ptr 90005000 0),none,some (.ptr 90005000 0),none,some (.agg [.s v17.1,.i v19.1]),none] (fun f s=>[((bt 6 0),f,s),((bt 6 2),((3,.s v17.1)::Fr.clrs [] f),([(90005000,.cells [.l cU v17.2.b,.bo v17.2.bad])]++Sto.clrs [] (Sto.dels [90005000] s))),((bt 6 10),((5,.i v19.1)::Fr.clrs [] ((3,.s v17.1)::Fr.clrs [] f)),([(90005000,.cells [.l cU v19.2.b,.bo v19.2.bad])]++Sto.clrs [] (Sto.dels [90005000] ([(90005000,.cells [.l cU v17.2.b,.bo v17.2.bad])]++Sto.clrs [] (Sto.dels [90005000] s))))),((bt 6 42),((5,.i v19.1)::Fr.clrs [] ((3,.s v17.1)::Fr.clrs [] f)),(Sto.upd ([(90005000,.cells [.l cU v19.2.b,.bo v19.2.bad])]++Sto.clrs [] (Sto.dels [90005000] ([(90005000,.cells [.l cU v17.2.b,.bo v17.2.bad])]++Sto.clrs [] (Sto.dels [90005000] s)))) 1 (.cells [.s v17.1,.i v19.1])))]) mixed (by kernel_rfl) (.cons (mn tk [1] (by kernel_rfl) (.cons (mdt 1 rfl (yda (kia s11.2.1 v17 h18) rfl rfl (zda rfl zna)) (by kernel_rfl)) .nil)) (.cons (mn tk [3] (by kernel_rfl) (.cons (mdt 2 rfl (yda (zCa v17.2 v19 h20) rfl rfl (zda rfl zna)) (by kernel_rfl)) .nil)) (.cons (mn tk [5] (by kernel_rfl) (.cons (mst 3 rfl (KCa rfl rfl rfl kea rfl rfl) (by kernel_rfl)) .nil)) (.cons (mf tk [] [(1,.ptr 1 0)] (by kernel_rfl) .nil (fc rfl fn) (hA ?_)) .nil))));refine rn tk 2 rfl ?_;refine ie tk [.agg [.s v17.1,.i v19.1]] [(0,.ptr 90005000 0),(1,.fn (.func 101) [] [.ptr 4 0]),(5,.i v9.1),(7,.i s11.1),(22,.hs 1006 0)] [(90005000,.cells [.l cU v19.2.b,.bo v19.2.bad]),(1,.cells [.s v17.1,.i v19.1]),(1006,.row 78 false 2 (List.map zba.pc s11.2.2)),(2199999,.sus g0.w.heap.size ds21),(2100002,.hold (.ptr 2 0) (T21.getD 2 undef)),(2100004,.hold (.ptr 4 0) (T21.getD 4 undef)),(2100005,.hold (.ptr 5 0) (T21.getD 5 undef)),(2100006,.hold (.ptr 5 2) (T21.getD 6 undef)),(2100025,.hold (.ptr 5 2) (T21.getD 25 undef)),(5,.cells [.i v1.1,.i v3.1,.s v7.1,.l zba.pc ([]),.s (([]:Str)),.l zea.pc ([]),.l cU ([]),.i 0,.s (([]:Str)),.l cI ([]),.l cI ([])]),(4,.cells [.ptr 90005000 0]),(2,.cells [.i 0,.i 0,.s (([]:Str)),.l zba.pc ([]),.s (([]:Str)),.l zea.pc ([]),.l cU ([]),.i 0,.s (([]:Str)),.l cI ([]),.l cI ([])])] (.inr rfl) rfl rfl rfl rfl (hO ?_);refine wz zba.pc ([(zba.mk v17.1 v19.1)]:List zba) tk rfl rfl (fun _=>rfl) rfl rfl rfl ?_;obtain ⟨v21,h22,hr⟩:=zaa hr;refine wa tk h22 rfl rfl rfl rfl (fun _=>rfl) rfl rfl<|rn tk 9 rfl ?_;cases hr;exact atc rfl rfl
    refine rn tk 2 rfl ?_;cases hr;exact ato rfl rfl rfl rfl
   refine rn tk 9 rfl ?_;refine ie tk [.hs 1006 0] [(2,.ptr 2 0),(4,.ptr 4 0),(5,.ptr 5 0),(6,.ptr 5 2),(25,.ptr 5 2)] [(90005000,.cells [.l cU b12.1.b,.bo b12.1.bad]),(1006,.row 78 false 2 (List.map zba.pc b12.2)),(5,.cells [.i v1.1,.i v3.1,.s v7.1,.l zba.pc ([]),.s (([]:Str)),.l zea.pc ([]),.l cU ([]),.i 0,.s (([]:Str)),.l cI ([]),.l cI ([])]),(4,.cells [.ptr 90005000 0]),(2,.cells [.i 0,.i 0,.s (([]:Str)),.l zba.pc ([]),.s (([]:Str)),.l zea.pc ([]),.l cU ([]),.i 0,.s (([]:Str)),.l cI ([]),.l cI ([])])] (.inr rfl) rfl rfl rfl rfl (hO ?_);refine rn tk 2 rfl ?_;refine Wia (d:=28) (F:=zba.pc) (l:=b12.2) rfl rfl (hO ?_);refine rn tk 7 rfl ?_;obtain ⟨v23,h24,hr⟩:=zaa hr;refine wo (zUa (k:=33) (kia b12.1 v23 h24) rfl rfl (zda rfl zna)) rfl<|rn tk 9 rfl<|il (fn:=f102) (args:=[.ptr 90005000 0,.fn (.func 103) [] [.ptr 4 0]]) 2600000 2699999 [(2,.ptr 2 0),(4,.ptr 4 0),(5,.ptr 5 0)] rfl ⟨func102,rfl,by kernel_rfl⟩ rfl rfl rfl fun T26 ds26=>?_
   refine rn tk 8 rfl ?_;obtain ⟨v25,h26,hr⟩:=zaa hr;refine wo (zUa (k:=9) (zCa v23.2 v25 h26) rfl rfl (zda rfl zna)) rfl<|rn tk 6 rfl ?_;refine qja 2006 (d:=6) 80 2 rfl rfl rfl (hO ?_);refine rn tk 9 rfl<|al1 hr (fun s27=>[(0,.ptr 90005000 0),(1,.fn (.func 103) [] [.ptr 4 0]),(5,.i v25.1),(6,.hs 2006 0),(7,.i s27.1)]) (fun s27=>[(2006,.row 80 false 2 (List.map zea.pc s27.2.2)),(90005000,.cells [.l cU s27.2.1.b,.bo s27.2.1.bad]),(2699999,.sus g0.w.heap.size ds26),(2600002,.hold (.ptr 2 0) (T26.getD 2 undef)),(2600004,.hold (.ptr 4 0) (T26.getD 4 undef)),(2600005,.hold (.ptr 5 0) (T26.getD 5 undef)),(5,.cells [.i v1.1,.i v3.1,.s v7.1,.l zba.pc b12.2,.s v23.1,.l zea.pc ([]),.l cU ([]),.i 0,.s (([]:Str)),.l cI ([]),.l cI ([])]),(4,.cells [.ptr 90005000 0]),(2,.cells [.i 0,.i 0,.s (([]:Str)),.l zba.pc ([]),.s (([]:Str)),.l zea.pc ([]),.l cU ([]),.i 0,.s (([]:Str)),.l cI ([]),.l cI ([])])]) (.exit 0) (fun b28=>[(6,.hs 2006 0)]) (fun b28=>[(90005000,.cells [.l cU b28.1.b,.bo b28.1.bad]),(2006,.row 80 false 2 (List.map zea.pc b28.2)),(2699999,.sus g0.w.heap.size ds26),(2600002,.hold (.ptr 2 0) (T26.getD 2 undef)),(2600004,.hold (.ptr 4 0) (T26.getD 4 undef)),(2600005,.hold (.ptr 5 0) (T26.getD 5 undef)),(5,.cells [.i v1.1,.i v3.1,.s v7.1,.l zba.pc b12.2,.s v23.1,.l zea.pc ([]),.l cU ([]),.i 0,.s (([]:Str)),.l cI ([]),.l cI ([])]),(4,.cells [.ptr 90005000 0]),(2,.cells [.i 0,.i 0,.s (([]:Str)),.l zba.pc ([]),.s (([]:Str)),.l zea.pc ([]),.l cU ([]),.i 0,.s (([]:Str)),.l cI ([]),.l cI ([])])]) rfl rfl (fun s27 x29 hr=>?_) (fun b28 hr=>?_)
   .unfold vfa at hr;refine rn tk 1 rfl<|jb hr (fun j30=>[(0,.ptr 90005000 0),(1,.fn (.func 103) [] [.ptr 4 0]),(5,.i v25.1),(6,.hs 2006 0),(7,.i s27.1),(19,.bo j30)]) (fun j30=>[(2006,.row 80 false 2 (List.map zea.pc s27.2.2)),(90005000,.cells [.l cU s27.2.1.b,.bo s27.2.1.bad]),(2699999,.sus g0.w.heap.size ds26),(2600002,.hold (.ptr 2 0) (T26.getD 2 undef)),(2600004,.hold (.ptr 4 0) (T26.getD 4 undef)),(2600005,.hold (.ptr 5 0) (T26.getD 5 undef)),(5,.cells [.i v1.1,.i v3.1,.s v7.1,.l zba.pc b12.2,.s v23.1,.l zea.pc ([]),.l cU ([]),.i 0,.s (([]:Str)),.l cI ([]),.l cI ([])]),(4,.cells [.ptr 90005000 0]),(2,.cells [.i 0,.i 0,.s (([]:Str)),.l zba.pc ([]),.s (([]:Str)),.l zea.pc ([]),.l cU ([]),.i 0,.s (([]:Str)),.l cI ([]),.l cI ([])])]) (fun j30 hr=>?_) (fun j30 hr=>?_)
    .refine rn tk 5 rfl<|bs 13 hr rfl (fun c31 hr=>?_) (fun c31 hr=>?_)
     .refine rn tk 7 rfl ?_;cases hr;exact jn _ rfl rfl rfl
     refine rn tk 7 rfl ?_;cases hr;exact jn _ rfl rfl rfl
    refine ac 19 hr rfl (fun c32 hr=>?_) (fun c32 hr=>?_)
    .refine rn tk 7 rfl<|il (fn:=f103) (args:=[.ptr 4 0]) 3000000 3099999 [(0,.ptr 90005000 0),(1,.fn (.func 103) [] [.ptr 4 0]),(5,.i v25.1),(7,.i s27.1),(22,.hs 2006 0)] rfl ⟨func103,rfl,by kernel_rfl⟩ rfl rfl rfl fun T30 ds30=>?_
     refine rn tk 6 rfl ?_;obtain ⟨v33,h34,hr⟩:=zaa hr;obtain ⟨v35,h36,hr⟩:=zaa hr;refine mz [some (.ptr 90005000 0),none,some (.ptr 90005000 0),none,some (.agg [.s v33.1,.s v35.1]),none] (fun f s=>[((bt 6 0),f,s),((bt 6 2),((3,.s v33.1)::Fr.clrs [] f),([(90005000,.cells [.l cU v33.2.b,.bo v33.2.bad])]++Sto.clrs [] (Sto.dels [90005000] s))),((bt 6 10),((5,.s v35.1)::Fr.clrs [] ((3,.s v33.1)::Fr.clrs [] f)),([(90005000,.cells [.l cU v35.2.b,.bo v35.2.bad])]++Sto.clrs [] (Sto.dels [90005000] ([(90005000,.cells [.l cU v33.2.b,.bo v33.2.bad])]++Sto.clrs [] (Sto.dels [90005000] s))))),((bt 6 42),((5,.s v35.1)::Fr.clrs [] ((3,.s v33.1)::Fr.clrs [] f)),(Sto.upd ([(90005000,.cells [.l cU v35.2.b,.bo v35.2.bad])]++Sto.clrs [] (Sto.dels [90005000] ([(90005000,.cells [.l cU v33.2.b,.bo v33.2.bad])]++Sto.clrs [] (Sto.dels [90005000] s)))) 1 (.cells [.s v33.1,.s v35.1])))]) mixed (by kernel_rfl) (.cons (mn tk [1] (by kernel_rfl) (.cons (mdt 1 rfl (yda (kia s27.2.1 v33 h34) rfl rfl (zda rfl zna)) (by kernel_rfl)) .nil)) (.cons (mn tk [3] (by kernel_rfl) (.cons (mdt 2 rfl (yda (kia v33.2 v35 h36) rfl rfl (zda rfl zna)) (by kernel_rfl)) .nil)) (.cons (mn tk [5] (by kernel_rfl) (.cons (mst 3 rfl (KCa rfl rfl rfl qFa rfl rfl) (by kernel_rfl)) .nil)) (.cons (mf tk [] [(1,.ptr 1 0)] (by kernel_rfl) .nil (fc rfl fn) (hA ?_)) .nil))));refine rn tk 2 rfl ?_;refine ie tk [.agg [.s v33.1,.s v35.1]] [(0,.ptr 90005000 0),(1,.fn (.func 103) [] [.ptr 4 0]),(5,.i v25.1),(7,.i s27.1),(22,.hs 2006 0)] [(90005000,.cells [.l cU v35.2.b,.bo v35.2.bad]),(1,.cells [.s v33.1,.s v35.1]),(2006,.row 80 false 2 (List.map zea.pc s27.2.2)),(2699999,.sus g0.w.heap.size ds26),(2600002,.hold (.ptr 2 0) (T26.getD 2 undef)),(2600004,.hold (.ptr 4 0) (T26.getD 4 undef)),(2600005,.hold (.ptr 5 0) (T26.getD 5 undef)),(5,.cells [.i v1.1,.i v3.1,.s v7.1,.l zba.pc b12.2,.s v23.1,.l zea.pc ([]),.l cU ([]),.i 0,.s (([]:Str)),.l cI ([]),.l cI ([])]),(4,.cells [.ptr 90005000 0]),(2,.cells [.i 0,.i 0,.s (([]:Str)),.l zba.pc ([]),.s (([]:Str)),.l zea.pc ([]),.l cU ([]),.i 0,.s (([]:Str)),.l cI ([]),.l cI ([])])] (.inr rfl) rfl rfl rfl rfl (hO ?_);refine wz zea.pc ([(zea.mk v33.1 v35.1)]:List zea) tk rfl rfl (fun _=>rfl) rfl rfl rfl ?_;obtain ⟨v37,h38,hr⟩:=zaa hr;refine wa tk h38 rfl rfl rfl rfl (fun _=>rfl) rfl rfl<|rn tk 9 rfl ?_;cases hr;exact atc rfl rfl
    refine rn tk 2 rfl ?_;cases hr;exact ato rfl rfl rfl rfl
   refine rn tk 9 rfl ?_;refine ie tk [.hs 2006 0] [(2,.ptr 2 0),(4,.ptr 4 0),(5,.ptr 5 0)] [(90005000,.cells [.l cU b28.1.b,.bo b28.1.bad]),(2006,.row 80 false 2 (List.map zea.pc b28.2)),(5,.cells [.i v1.1,.i v3.1,.s v7.1,.l zba.pc b12.2,.s v23.1,.l zea.pc ([]),.l cU ([]),.i 0,.s (([]:Str)),.l cI ([]),.l cI ([])]),(4,.cells [.ptr 90005000 0]),(2,.cells [.i 0,.i 0,.s (([]:Str)),.l zba.pc ([]),.s (([]:Str)),.l zea.pc ([]),.l cU ([]),.i 0,.s (([]:Str)),.l cI ([]),.l cI ([])])] (.inr rfl) rfl rfl rfl rfl (hO ?_);refine rn tk 3 rfl ?_;refine Wia (d:=38) (F:=zea.pc) (l:=b28.2) rfl rfl (hO ?_);refine rn tk 5 rfl ?_;obtain ⟨v39,h40,hr⟩:=zaa hr;refine wo (zUa (k:=43) (kia b28.1 v39 h40) rfl rfl (zda rfl zna)) rfl<|wo (ZAa (d:=44) rfl rfl (y1a (k:=0) rfl z2a zoa zNa)) rfl<|rn tk 5 rfl ?_;cases hr;exact jn _ rfl rfl rfl
  refine rn tk 1 rfl ?_;obtain ⟨v41,h42,hr⟩:=zaa hr;obtain ⟨v43,h44,hr⟩:=zaa hr;refine mz [some (.ptr 90005000 0),none,some (.ptr 90005000 0),none,some (.ptr 5 7),some (.ptr 5 7),none,some (.ptr 5 7),some (.ptr 5 8),none] (fun f s=>[((bt 10 0),f,s),((bt 10 2),((49,.i v41.1)::Fr.clrs [] f),([(90005000,.cells [.l cU v41.2.b,.bo v41.2.bad])]++Sto.clrs [] (Sto.dels [90005000] s))),((bt 10 10),((51,.s v43.1)::Fr.clrs [] ((49,.i v41.1)::Fr.clrs [] f)),([(90005000,.cells [.l cU v43.2.b,.bo v43.2.bad])]++Sto.clrs [] (Sto.dels [90005000] ([(90005000,.cells [.l cU v41.2.b,.bo v41.2.bad])]++Sto.clrs [] (Sto.dels [90005000] s))))),((bt 10 74),((51,.s v43.1)::Fr.clrs [] ((49,.i v41.1)::Fr.clrs [] f)),(Sto.upd ([(90005000,.cells [.l cU v43.2.b,.bo v43.2.bad])]++Sto.clrs [] (Sto.dels [90005000] ([(90005000,.cells [.l cU v41.2.b,.bo v41.2.bad])]++Sto.clrs [] (Sto.dels [90005000] s)))) 5 (.cells [.i v1.1,.i v3.1,.s (([]:Str)),.pv (.sl (some true) []),.s (([]:Str)),.pv (.sl (some true) []),.pv (.sl (some true) []),.i v41.1,.s (([]:Str)),.pv (.sl (some true) []),.pv (.sl (some true) [])]))),((bt 10 586),((51,.s v43.1)::Fr.clrs [] ((49,.i v41.1)::Fr.clrs [] f)),(Sto.upd (Sto.upd ([(90005000,.cells [.l cU v43.2.b,.bo v43.2.bad])]++Sto.clrs [] (Sto.dels [90005000] ([(90005000,.cells [.l cU v41.2.b,.bo v41.2.bad])]++Sto.clrs [] (Sto.dels [90005000] s)))) 5 (.cells [.i v1.1,.i v3.1,.s (([]:Str)),.pv (.sl (some true) []),.s (([]:Str)),.pv (.sl (some true) []),.pv (.sl (some true) []),.i v41.1,.s (([]:Str)),.pv (.sl (some true) []),.pv (.sl (some true) [])])) 5 (.cells [.i v1.1,.i v3.1,.s (([]:Str)),.pv (.sl (some true) []),.s (([]:Str)),.pv (.sl (some true) []),.pv (.sl (some true) []),.i v41.1,.s v43.1,.pv (.sl (some true) []),.pv (.sl (some true) [])])))]) mixed (by kernel_rfl) (.cons (mn tk [1] (by kernel_rfl) (.cons (mdt 1 rfl (yda (zCa v3.2 v41 h42) rfl rfl (zda rfl zna)) (by kernel_rfl)) .nil)) (.cons (mn tk [3] (by kernel_rfl) (.cons (mdt 2 rfl (yda (kia v41.2 v43 h44) rfl rfl (zda rfl zna)) (by kernel_rfl)) .nil)) (.cons (mn tk [6] (by kernel_rfl) (.cons (mst 3 rfl (KCa rfl rfl rfl z7a rfl rfl) (by kernel_rfl)) .nil)) (.cons (mn tk [9] (by kernel_rfl) (.cons (mst 4 rfl (KCa rfl rfl rfl z2a rfl rfl) (by kernel_rfl)) .nil)) (.cons (mf tk [] [(2,.ptr 2 0),(4,.ptr 4 0),(5,.ptr 5 0)] (by kernel_rfl) .nil (fc rfl (fc rfl (fc rfl fn))) (hA ?_)) .nil)))));refine rn tk 6 rfl<|il (fn:=f104) (args:=[.ptr 90005000 0,.fn (.func 59) [.ptr 90005000 0] []]) 3100000 3199999 [(2,.ptr 2 0),(4,.ptr 4 0),(5,.ptr 5 0)] rfl ⟨func104,rfl,by kernel_rfl⟩ rfl rfl rfl fun T31 ds31=>?_
  refine rn tk 8 rfl ?_;obtain ⟨v45,h46,hr⟩:=zaa hr;refine wo (zUa (k:=9) (zCa v43.2 v45 h46) rfl rfl (zda rfl zna)) rfl<|rn tk 6 rfl ?_;refine qja 1006 (d:=6) 3 1 rfl rfl rfl (hO ?_);refine rn tk 9 rfl<|al1 hr (fun s47=>[(0,.ptr 90005000 0),(1,.fn (.func 59) [.ptr 90005000 0] []),(5,.i v45.1),(6,.hs 1006 0),(7,.i s47.1)]) (fun s47=>[(1006,.row 3 false 1 (List.map cI s47.2.2)),(90005000,.cells [.l cU s47.2.1.b,.bo s47.2.1.bad]),(3199999,.sus g0.w.heap.size ds31),(3100002,.hold (.ptr 2 0) (T31.getD 2 undef)),(3100004,.hold (.ptr 4 0) (T31.getD 4 undef)),(3100005,.hold (.ptr 5 0) (T31.getD 5 undef)),(5,.cells [.i v1.1,.i v3.1,.s (([]:Str)),.l zba.pc ([]),.s (([]:Str)),.l zea.pc ([]),.l cU ([]),.i v41.1,.s v43.1,.l cI ([]),.l cI ([])]),(4,.cells [.ptr 90005000 0]),(2,.cells [.i 0,.i 0,.s (([]:Str)),.l zba.pc ([]),.s (([]:Str)),.l zea.pc ([]),.l cU ([]),.i 0,.s (([]:Str)),.l cI ([]),.l cI ([])])]) (.exit 0) (fun b48=>[(6,.hs 1006 0)]) (fun b48=>[(90005000,.cells [.l cU b48.1.b,.bo b48.1.bad]),(1006,.row 3 false 1 (List.map cI b48.2)),(3199999,.sus g0.w.heap.size ds31),(3100002,.hold (.ptr 2 0) (T31.getD 2 undef)),(3100004,.hold (.ptr 4 0) (T31.getD 4 undef)),(3100005,.hold (.ptr 5 0) (T31.getD 5 undef)),(5,.cells [.i v1.1,.i v3.1,.s (([]:Str)),.l zba.pc ([]),.s (([]:Str)),.l zea.pc ([]),.l cU ([]),.i v41.1,.s v43.1,.l cI ([]),.l cI ([])]),(4,.cells [.ptr 90005000 0]),(2,.cells [.i 0,.i 0,.s (([]:Str)),.l zba.pc ([]),.s (([]:Str)),.l zea.pc ([]),.l cU ([]),.i 0,.s (([]:Str)),.l cI ([]),.l cI ([])])]) rfl rfl (fun s47 x49 hr=>?_) (fun b48 hr=>?_)
  .unfold vga at hr;refine rn tk 1 rfl<|jb hr (fun j50=>[(0,.ptr 90005000 0),(1,.fn (.func 59) [.ptr 90005000 0] []),(5,.i v45.1),(6,.hs 1006 0),(7,.i s47.1),(19,.bo j50)]) (fun j50=>[(1006,.row 3 false 1 (List.map cI s47.2.2)),(90005000,.cells [.l cU s47.2.1.b,.bo s47.2.1.bad]),(3199999,.sus g0.w.heap.size ds31),(3100002,.hold (.ptr 2 0) (T31.getD 2 undef)),(3100004,.hold (.ptr 4 0) (T31.getD 4 undef)),(3100005,.hold (.ptr 5 0) (T31.getD 5 undef)),(5,.cells [.i v1.1,.i v3.1,.s (([]:Str)),.l zba.pc ([]),.s (([]:Str)),.l zea.pc ([]),.l cU ([]),.i v41.1,.s v43.1,.l cI ([]),.l cI ([])]),(4,.cells [.ptr 90005000 0]),(2,.cells [.i 0,.i 0,.s (([]:Str)),.l zba.pc ([]),.s (([]:Str)),.l zea.pc ([]),.l cU ([]),.i 0,.s (([]:Str)),.l cI ([]),.l cI ([])])]) (fun j50 hr=>?_) (fun j50 hr=>?_)
   .refine rn tk 5 rfl<|bs 13 hr rfl (fun c51 hr=>?_) (fun c51 hr=>?_)
    .refine rn tk 7 rfl ?_;cases hr;exact jn _ rfl rfl rfl
    refine rn tk 7 rfl ?_;cases hr;exact jn _ rfl rfl rfl
   refine ac 19 hr rfl (fun c52 hr=>?_) (fun c52 hr=>?_)
   .refine rn tk 7 rfl<|ct hr (fun j53=>[(0,.ptr 90005000 0),(1,.fn (.func 59) [.ptr 90005000 0] []),(5,.i v45.1),(7,.i s47.1),(22,.hs 1006 0),(24,.i j53.1)]) (fun j53=>[(90005000,.cells [.l cU j53.2.b,.bo j53.2.bad]),(1006,.row 3 false 1 (List.map cI s47.2.2)),(3199999,.sus g0.w.heap.size ds31),(3100002,.hold (.ptr 2 0) (T31.getD 2 undef)),(3100004,.hold (.ptr 4 0) (T31.getD 4 undef)),(3100005,.hold (.ptr 5 0) (T31.getD 5 undef)),(5,.cells [.i v1.1,.i v3.1,.s (([]:Str)),.l zba.pc ([]),.s (([]:Str)),.l zea.pc ([]),.l cU ([]),.i v41.1,.s v43.1,.l cI ([]),.l cI ([])]),(4,.cells [.ptr 90005000 0]),(2,.cells [.i 0,.i 0,.s (([]:Str)),.l zba.pc ([]),.s (([]:Str)),.l zea.pc ([]),.l cU ([]),.i 0,.s (([]:Str)),.l cI ([]),.l cI ([])])]) (fun j53 hr jump35=>?_) (fun j53 hr=>?_)
    .refine il (fn:=f59) (args:=[.ptr 90005000 0]) 3500000 3599999 [(0,.ptr 90005000 0),(1,.fn (.func 59) [.ptr 90005000 0] []),(5,.i v45.1),(7,.i s47.1),(22,.hs 1006 0)] rfl ⟨func59,rfl,by kernel_rfl⟩ rfl rfl rfl fun T35 ds35=>?_
     refine rn tk 12 rfl<|wn tk rfl rfl rfl<|rn tk 3 rfl<|ac 10 hr rfl (fun c54 hr=>?_) (fun c54 hr=>?_)
     .refine rn tk 19 rfl ?_;refine ie tk [.i 0] [(0,.ptr 90005000 0),(1,.fn (.func 59) [.ptr 90005000 0] []),(5,.i v45.1),(7,.i s47.1),(22,.hs 1006 0)] [(1006,.row 3 false 1 (List.map cI s47.2.2)),(90005000,.cells [.pv (.sl (some true) []),.bo true]),(3199999,.sus g0.w.heap.size ds31),(3100002,.hold (.ptr 2 0) (T31.getD 2 undef)),(3100004,.hold (.ptr 4 0) (T31.getD 4 undef)),(3100005,.hold (.ptr 5 0) (T31.getD 5 undef)),(5,.cells [.i v1.1,.i v3.1,.s (([]:Str)),.l zba.pc ([]),.s (([]:Str)),.l zea.pc ([]),.l cU ([]),.i v41.1,.s v43.1,.l cI ([]),.l cI ([])]),(4,.cells [.ptr 90005000 0]),(2,.cells [.i 0,.i 0,.s (([]:Str)),.l zba.pc ([]),.s (([]:Str)),.l zea.pc ([]),.l cU ([]),.i 0,.s (([]:Str)),.l cI ([]),.l cI ([])])] (.inr rfl) rfl rfl rfl rfl ?_;cases hr;exact jump35 _ _ rfl rfl
     refine rn tk 14 rfl<|al1 hr (fun s55=>[(0,.ptr 90005000 0),(3,.pv (.b (.int .u64 s55.1))),(17,.i s55.2)]) (fun s55=>[(3599999,.sus g0.w.heap.size ds35),(3500000,.hold (.ptr 90005000 0) (T35.getD 0 undef)),(3500001,.hold (.fn (.func 59) [.ptr 90005000 0] []) (T35.getD 1 undef)),(3500005,.hold (.i v45.1) (T35.getD 5 undef)),(3500007,.hold (.i s47.1) (T35.getD 7 undef)),(3500022,.hold (.hs 1006 0) (T35.getD 22 undef)),(1006,.row 3 false 1 (List.map cI s47.2.2)),(90005000,.cells [.l cU s47.2.1.b,.bo s47.2.1.bad]),(3199999,.sus g0.w.heap.size ds31),(3100002,.hold (.ptr 2 0) (T31.getD 2 undef)),(3100004,.hold (.ptr 4 0) (T31.getD 4 undef)),(3100005,.hold (.ptr 5 0) (T31.getD 5 undef)),(5,.cells [.i v1.1,.i v3.1,.s (([]:Str)),.l zba.pc ([]),.s (([]:Str)),.l zea.pc ([]),.l cU ([]),.i v41.1,.s v43.1,.l cI ([]),.l cI ([])]),(4,.cells [.ptr 90005000 0]),(2,.cells [.i 0,.i 0,.s (([]:Str)),.l zba.pc ([]),.s (([]:Str)),.l zea.pc ([]),.l cU ([]),.i 0,.s (([]:Str)),.l cI ([]),.l cI ([])])]) (.exit 0) (fun b56=>[(0,.ptr 90005000 0),(3,.pv (.b (.int .u64 b56)))]) (fun b56=>[(3599999,.sus g0.w.heap.size ds35),(3500000,.hold (.ptr 90005000 0) (T35.getD 0 undef)),(3500001,.hold (.fn (.func 59) [.ptr 90005000 0] []) (T35.getD 1 undef)),(3500005,.hold (.i v45.1) (T35.getD 5 undef)),(3500007,.hold (.i s47.1) (T35.getD 7 undef)),(3500022,.hold (.hs 1006 0) (T35.getD 22 undef)),(1006,.row 3 false 1 (List.map cI s47.2.2)),(90005000,.cells [.l cU s47.2.1.b,.bo s47.2.1.bad]),(3199999,.sus g0.w.heap.size ds31),(3100002,.hold (.ptr 2 0) (T31.getD 2 undef)),(3100004,.hold (.ptr 4 0) (T31.getD 4 undef)),(3100005,.hold (.ptr 5 0) (T31.getD 5 undef)),(5,.cells [.i v1.1,.i v3.1,.s (([]:Str)),.l zba.pc ([]),.s (([]:Str)),.l zea.pc ([]),.l cU ([]),.i v41.1,.s v43.1,.l cI ([]),.l cI ([])]),(4,.cells [.ptr 90005000 0]),(2,.cells [.i 0,.i 0,.s (([]:Str)),.l zba.pc ([]),.s (([]:Str)),.l zea.pc ([]),.l cU ([]),.i 0,.s (([]:Str)),.l cI ([]),.l cI ([])])]) rfl rfl (fun s55 x57 hr=>?_) (fun b56 hr=>?_)
     .unfold Zsa at hr;refine rn tk 6 rfl<|ac 18 hr rfl (fun c58 hr=>?_) (fun c58 hr=>?_)
      .refine rn tk 17 rfl ?_;obtain ⟨v59,h60,hr⟩:=zaa hr;refine wi tk h60 rfl rfl rfl rfl rfl<|rn tk 1 rfl<|wq (KEa rfl zNa kKa) rfl rfl rfl<|rn tk 2 rfl ?_;obtain ⟨v61,h62,hr⟩:=zaa hr;refine wq (k0b rfl rfl (KDa h62)) rfl rfl rfl<|wq (wLb rfl rfl) rfl rfl rfl<|rn tk 8 rfl ?_;cases hr;exact atc rfl rfl
      refine rn tk 2 rfl ?_;cases hr;exact ato rfl rfl rfl rfl
     refine rn tk 9 rfl ?_;obtain ⟨v63,h64,hr⟩:=zaa hr;refine wlL tk h64 rfl rfl rfl (fun _=>rfl) rfl<|rn tk 8 rfl<|wq (jPa rfl kKa z7a) rfl rfl rfl<|rn tk 4 rfl ?_;refine ie tk [.i ((w64 b56))] [(0,.ptr 90005000 0),(1,.fn (.func 59) [.ptr 90005000 0] []),(5,.i v45.1),(7,.i s47.1),(22,.hs 1006 0)] [(1006,.row 3 false 1 (List.map cI s47.2.2)),(90005000,.cells [.l cU v63,.bo s47.2.1.bad]),(3199999,.sus g0.w.heap.size ds31),(3100002,.hold (.ptr 2 0) (T31.getD 2 undef)),(3100004,.hold (.ptr 4 0) (T31.getD 4 undef)),(3100005,.hold (.ptr 5 0) (T31.getD 5 undef)),(5,.cells [.i v1.1,.i v3.1,.s (([]:Str)),.l zba.pc ([]),.s (([]:Str)),.l zea.pc ([]),.l cU ([]),.i v41.1,.s v43.1,.l cI ([]),.l cI ([])]),(4,.cells [.ptr 90005000 0]),(2,.cells [.i 0,.i 0,.s (([]:Str)),.l zba.pc ([]),.s (([]:Str)),.l zea.pc ([]),.l cU ([]),.i 0,.s (([]:Str)),.l cI ([]),.l cI ([])])] (.inr rfl) rfl rfl rfl rfl ?_;cases hr;exact jump35 _ _ rfl rfl
    refine wz cI ([j53.1]:List Int) tk rfl rfl (fun _=>rfl) rfl rfl rfl ?_;obtain ⟨v65,h66,hr⟩:=zaa hr;refine wa tk h66 rfl rfl rfl rfl (fun _=>rfl) rfl rfl<|rn tk 9 rfl ?_;cases hr;exact atc rfl rfl
   refine rn tk 2 rfl ?_;cases hr;exact ato rfl rfl rfl rfl
  refine rn tk 9 rfl ?_;refine ie tk [.hs 1006 0] [(2,.ptr 2 0),(4,.ptr 4 0),(5,.ptr 5 0)] [(90005000,.cells [.l cU b48.1.b,.bo b48.1.bad]),(1006,.row 3 false 1 (List.map cI b48.2)),(5,.cells [.i v1.1,.i v3.1,.s (([]:Str)),.l zba.pc ([]),.s (([]:Str)),.l zea.pc ([]),.l cU ([]),.i v41.1,.s v43.1,.l cI ([]),.l cI ([])]),(4,.cells [.ptr 90005000 0]),(2,.cells [.i 0,.i 0,.s (([]:Str)),.l zba.pc ([]),.s (([]:Str)),.l zea.pc ([]),.l cU ([]),.i 0,.s (([]:Str)),.l cI ([]),.l cI ([])])] (.inr rfl) rfl rfl rfl rfl (hO ?_);refine rn tk 2 rfl ?_;refine Wia (d:=59) (F:=cI) (l:=b48.2) rfl rfl (hO ?_);refine rn tk 7 rfl<|il (fn:=f104) (args:=[.ptr 90005000 0,.fn (.func 59) [.ptr 90005000 0] []]) 3600000 3699999 [(2,.ptr 2 0),(4,.ptr 4 0),(5,.ptr 5 0)] rfl ⟨func104,rfl,by kernel_rfl⟩ rfl rfl rfl fun T36 ds36=>?_
  refine rn tk 8 rfl ?_;obtain ⟨v67,h68,hr⟩:=zaa hr;refine wo (zUa (k:=9) (zCa b48.1 v67 h68) rfl rfl (zda rfl zna)) rfl<|rn tk 6 rfl ?_;refine qja 2006 (d:=6) 3 1 rfl rfl rfl (hO ?_);refine rn tk 9 rfl<|al1 hr (fun s69=>[(0,.ptr 90005000 0),(1,.fn (.func 59) [.ptr 90005000 0] []),(5,.i v67.1),(6,.hs 2006 0),(7,.i s69.1)]) (fun s69=>[(2006,.row 3 false 1 (List.map cI s69.2.2)),(90005000,.cells [.l cU s69.2.1.b,.bo s69.2.1.bad]),(3699999,.sus g0.w.heap.size ds36),(3600002,.hold (.ptr 2 0) (T36.getD 2 undef)),(3600004,.hold (.ptr 4 0) (T36.getD 4 undef)),(3600005,.hold (.ptr 5 0) (T36.getD 5 undef)),(5,.cells [.i v1.1,.i v3.1,.s (([]:Str)),.l zba.pc ([]),.s (([]:Str)),.l zea.pc ([]),.l cU ([]),.i v41.1,.s v43.1,.l cI b48.2,.l cI ([])]),(4,.cells [.ptr 90005000 0]),(2,.cells [.i 0,.i 0,.s (([]:Str)),.l zba.pc ([]),.s (([]:Str)),.l zea.pc ([]),.l cU ([]),.i 0,.s (([]:Str)),.l cI ([]),.l cI ([])])]) (.exit 0) (fun b70=>[(6,.hs 2006 0)]) (fun b70=>[(90005000,.cells [.l cU b70.1.b,.bo b70.1.bad]),(2006,.row 3 false 1 (List.map cI b70.2)),(3699999,.sus g0.w.heap.size ds36),(3600002,.hold (.ptr 2 0) (T36.getD 2 undef)),(3600004,.hold (.ptr 4 0) (T36.getD 4 undef)),(3600005,.hold (.ptr 5 0) (T36.getD 5 undef)),(5,.cells [.i v1.1,.i v3.1,.s (([]:Str)),.l zba.pc ([]),.s (([]:Str)),.l zea.pc ([]),.l cU ([]),.i v41.1,.s v43.1,.l cI b48.2,.l cI ([])]),(4,.cells [.ptr 90005000 0]),(2,.cells [.i 0,.i 0,.s (([]:Str)),.l zba.pc ([]),.s (([]:Str)),.l zea.pc ([]),.l cU ([]),.i 0,.s (([]:Str)),.l cI ([]),.l cI ([])])]) rfl rfl (fun s69 x71 hr=>?_) (fun b70 hr=>?_)
  .unfold Zta at hr;refine rn tk 1 rfl<|jb hr (fun j72=>[(0,.ptr 90005000 0),(1,.fn (.func 59) [.ptr 90005000 0] []),(5,.i v67.1),(6,.hs 2006 0),(7,.i s69.1),(19,.bo j72)]) (fun j72=>[(2006,.row 3 false 1 (List.map cI s69.2.2)),(90005000,.cells [.l cU s69.2.1.b,.bo s69.2.1.bad]),(3699999,.sus g0.w.heap.size ds36),(3600002,.hold (.ptr 2 0) (T36.getD 2 undef)),(3600004,.hold (.ptr 4 0) (T36.getD 4 undef)),(3600005,.hold (.ptr 5 0) (T36.getD 5 undef)),(5,.cells [.i v1.1,.i v3.1,.s (([]:Str)),.l zba.pc ([]),.s (([]:Str)),.l zea.pc ([]),.l cU ([]),.i v41.1,.s v43.1,.l cI b48.2,.l cI ([])]),(4,.cells [.ptr 90005000 0]),(2,.cells [.i 0,.i 0,.s (([]:Str)),.l zba.pc ([]),.s (([]:Str)),.l zea.pc ([]),.l cU ([]),.i 0,.s (([]:Str)),.l cI ([]),.l cI ([])])]) (fun j72 hr=>?_) (fun j72 hr=>?_)
   .refine rn tk 5 rfl<|bs 13 hr rfl (fun c73 hr=>?_) (fun c73 hr=>?_)
    .refine rn tk 7 rfl ?_;cases hr;exact jn _ rfl rfl rfl
    refine rn tk 7 rfl ?_;cases hr;exact jn _ rfl rfl rfl
   refine ac 19 hr rfl (fun c74 hr=>?_) (fun c74 hr=>?_)
   .refine rn tk 7 rfl<|ct hr (fun j75=>[(0,.ptr 90005000 0),(1,.fn (.func 59) [.ptr 90005000 0] []),(5,.i v67.1),(7,.i s69.1),(22,.hs 2006 0),(24,.i j75.1)]) (fun j75=>[(90005000,.cells [.l cU j75.2.b,.bo j75.2.bad]),(2006,.row 3 false 1 (List.map cI s69.2.2)),(3699999,.sus g0.w.heap.size ds36),(3600002,.hold (.ptr 2 0) (T36.getD 2 undef)),(3600004,.hold (.ptr 4 0) (T36.getD 4 undef)),(3600005,.hold (.ptr 5 0) (T36.getD 5 undef)),(5,.cells [.i v1.1,.i v3.1,.s (([]:Str)),.l zba.pc ([]),.s (([]:Str)),.l zea.pc ([]),.l cU ([]),.i v41.1,.s v43.1,.l cI b48.2,.l cI ([])]),(4,.cells [.ptr 90005000 0]),(2,.cells [.i 0,.i 0,.s (([]:Str)),.l zba.pc ([]),.s (([]:Str)),.l zea.pc ([]),.l cU ([]),.i 0,.s (([]:Str)),.l cI ([]),.l cI ([])])]) (fun j75 hr jump40=>?_) (fun j75 hr=>?_)
    .refine il (fn:=f59) (args:=[.ptr 90005000 0]) 4000000 4099999 [(0,.ptr 90005000 0),(1,.fn (.func 59) [.ptr 90005000 0] []),(5,.i v67.1),(7,.i s69.1),(22,.hs 2006 0)] rfl ⟨func59,rfl,by kernel_rfl⟩ rfl rfl rfl fun T40 ds40=>?_
     refine rn tk 12 rfl<|wn tk rfl rfl rfl<|rn tk 3 rfl<|ac 10 hr rfl (fun c76 hr=>?_) (fun c76 hr=>?_)
     .refine rn tk 19 rfl ?_;refine ie tk [.i 0] [(0,.ptr 90005000 0),(1,.fn (.func 59) [.ptr 90005000 0] []),(5,.i v67.1),(7,.i s69.1),(22,.hs 2006 0)] [(2006,.row 3 false 1 (List.map cI s69.2.2)),(90005000,.cells [.pv (.sl (some true) []),.bo true]),(3699999,.sus g0.w.heap.size ds36),(3600002,.hold (.ptr 2 0) (T36.getD 2 undef)),(3600004,.hold (.ptr 4 0) (T36.getD 4 undef)),(3600005,.hold (.ptr 5 0) (T36.getD 5 undef)),(5,.cells [.i v1.1,.i v3.1,.s (([]:Str)),.l zba.pc ([]),.s (([]:Str)),.l zea.pc ([]),.l cU ([]),.i v41.1,.s v43.1,.l cI b48.2,.l cI ([])]),(4,.cells [.ptr 90005000 0]),(2,.cells [.i 0,.i 0,.s (([]:Str)),.l zba.pc ([]),.s (([]:Str)),.l zea.pc ([]),.l cU ([]),.i 0,.s (([]:Str)),.l cI ([]),.l cI ([])])] (.inr rfl) rfl rfl rfl rfl ?_;cases hr;exact jump40 _ _ rfl rfl
     refine rn tk 14 rfl<|al1 hr (fun s77=>[(0,.ptr 90005000 0),(3,.pv (.b (.int .u64 s77.1))),(17,.i s77.2)]) (fun s77=>[(4099999,.sus g0.w.heap.size ds40),(4000000,.hold (.ptr 90005000 0) (T40.getD 0 undef)),(4000001,.hold (.fn (.func 59) [.ptr 90005000 0] []) (T40.getD 1 undef)),(4000005,.hold (.i v67.1) (T40.getD 5 undef)),(4000007,.hold (.i s69.1) (T40.getD 7 undef)),(4000022,.hold (.hs 2006 0) (T40.getD 22 undef)),(2006,.row 3 false 1 (List.map cI s69.2.2)),(90005000,.cells [.l cU s69.2.1.b,.bo s69.2.1.bad]),(3699999,.sus g0.w.heap.size ds36),(3600002,.hold (.ptr 2 0) (T36.getD 2 undef)),(3600004,.hold (.ptr 4 0) (T36.getD 4 undef)),(3600005,.hold (.ptr 5 0) (T36.getD 5 undef)),(5,.cells [.i v1.1,.i v3.1,.s (([]:Str)),.l zba.pc ([]),.s (([]:Str)),.l zea.pc ([]),.l cU ([]),.i v41.1,.s v43.1,.l cI b48.2,.l cI ([])]),(4,.cells [.ptr 90005000 0]),(2,.cells [.i 0,.i 0,.s (([]:Str)),.l zba.pc ([]),.s (([]:Str)),.l zea.pc ([]),.l cU ([]),.i 0,.s (([]:Str)),.l cI ([]),.l cI ([])])]) (.exit 0) (fun b78=>[(0,.ptr 90005000 0),(3,.pv (.b (.int .u64 b78)))]) (fun b78=>[(4099999,.sus g0.w.heap.size ds40),(4000000,.hold (.ptr 90005000 0) (T40.getD 0 undef)),(4000001,.hold (.fn (.func 59) [.ptr 90005000 0] []) (T40.getD 1 undef)),(4000005,.hold (.i v67.1) (T40.getD 5 undef)),(4000007,.hold (.i s69.1) (T40.getD 7 undef)),(4000022,.hold (.hs 2006 0) (T40.getD 22 undef)),(2006,.row 3 false 1 (List.map cI s69.2.2)),(90005000,.cells [.l cU s69.2.1.b,.bo s69.2.1.bad]),(3699999,.sus g0.w.heap.size ds36),(3600002,.hold (.ptr 2 0) (T36.getD 2 undef)),(3600004,.hold (.ptr 4 0) (T36.getD 4 undef)),(3600005,.hold (.ptr 5 0) (T36.getD 5 undef)),(5,.cells [.i v1.1,.i v3.1,.s (([]:Str)),.l zba.pc ([]),.s (([]:Str)),.l zea.pc ([]),.l cU ([]),.i v41.1,.s v43.1,.l cI b48.2,.l cI ([])]),(4,.cells [.ptr 90005000 0]),(2,.cells [.i 0,.i 0,.s (([]:Str)),.l zba.pc ([]),.s (([]:Str)),.l zea.pc ([]),.l cU ([]),.i 0,.s (([]:Str)),.l cI ([]),.l cI ([])])]) rfl rfl (fun s77 x79 hr=>?_) (fun b78 hr=>?_)
     .unfold QOa at hr;refine rn tk 6 rfl<|ac 18 hr rfl (fun c80 hr=>?_) (fun c80 hr=>?_)
      .refine rn tk 17 rfl ?_;obtain ⟨v81,h82,hr⟩:=zaa hr;refine wi tk h82 rfl rfl rfl rfl rfl<|rn tk 1 rfl<|wq (KEa rfl zNa kKa) rfl rfl rfl<|rn tk 2 rfl ?_;obtain ⟨v83,h84,hr⟩:=zaa hr;refine wq (k0b rfl rfl (KDa h84)) rfl rfl rfl<|wq (wLb rfl rfl) rfl rfl rfl<|rn tk 8 rfl ?_;cases hr;exact atc rfl rfl
      refine rn tk 2 rfl ?_;cases hr;exact ato rfl rfl rfl rfl
     refine rn tk 9 rfl ?_;obtain ⟨v85,h86,hr⟩:=zaa hr;refine wlL tk h86 rfl rfl rfl (fun _=>rfl) rfl<|rn tk 8 rfl<|wq (jPa rfl kKa z7a) rfl rfl rfl<|rn tk 4 rfl ?_;refine ie tk [.i ((w64 b78))] [(0,.ptr 90005000 0),(1,.fn (.func 59) [.ptr 90005000 0] []),(5,.i v67.1),(7,.i s69.1),(22,.hs 2006 0)] [(2006,.row 3 false 1 (List.map cI s69.2.2)),(90005000,.cells [.l cU v85,.bo s69.2.1.bad]),(3699999,.sus g0.w.heap.size ds36),(3600002,.hold (.ptr 2 0) (T36.getD 2 undef)),(3600004,.hold (.ptr 4 0) (T36.getD 4 undef)),(3600005,.hold (.ptr 5 0) (T36.getD 5 undef)),(5,.cells [.i v1.1,.i v3.1,.s (([]:Str)),.l zba.pc ([]),.s (([]:Str)),.l zea.pc ([]),.l cU ([]),.i v41.1,.s v43.1,.l cI b48.2,.l cI ([])]),(4,.cells [.ptr 90005000 0]),(2,.cells [.i 0,.i 0,.s (([]:Str)),.l zba.pc ([]),.s (([]:Str)),.l zea.pc ([]),.l cU ([]),.i 0,.s (([]:Str)),.l cI ([]),.l cI ([])])] (.inr rfl) rfl rfl rfl rfl ?_;cases hr;exact jump40 _ _ rfl rfl
    refine wz cI ([j75.1]:List Int) tk rfl rfl (fun _=>rfl) rfl rfl rfl ?_;obtain ⟨v87,h88,hr⟩:=zaa hr;refine wa tk h88 rfl rfl rfl rfl (fun _=>rfl) rfl rfl<|rn tk 9 rfl ?_;cases hr;exact atc rfl rfl
   refine rn tk 2 rfl ?_;cases hr;exact ato rfl rfl rfl rfl
  refine rn tk 9 rfl ?_;refine ie tk [.hs 2006 0] [(2,.ptr 2 0),(4,.ptr 4 0),(5,.ptr 5 0)] [(90005000,.cells [.l cU b70.1.b,.bo b70.1.bad]),(2006,.row 3 false 1 (List.map cI b70.2)),(5,.cells [.i v1.1,.i v3.1,.s (([]:Str)),.l zba.pc ([]),.s (([]:Str)),.l zea.pc ([]),.l cU ([]),.i v41.1,.s v43.1,.l cI b48.2,.l cI ([])]),(4,.cells [.ptr 90005000 0]),(2,.cells [.i 0,.i 0,.s (([]:Str)),.l zba.pc ([]),.s (([]:Str)),.l zea.pc ([]),.l cU ([]),.i 0,.s (([]:Str)),.l cI ([]),.l cI ([])])] (.inr rfl) rfl rfl rfl rfl (hO ?_);refine rn tk 1 rfl ?_;refine Wia (d:=65) (F:=cI) (l:=b70.2) rfl rfl (hO ?_);refine rn tk 2 rfl ?_;cases hr;exact jn _ rfl rfl rfl
 refine jb hr (fun j89=>[(2,.ptr 2 0),(3,.bo j89)]) (fun j89=>[(2,.cells [.i j5.2.Kind,.i j5.2.Now,.s j5.2.Mail.Envelope.From,.l zba.pc j5.2.Mail.Envelope.To,.s j5.2.Mail.Envelope.Id,.l zea.pc j5.2.Mail.Message.Fields,.l cU j5.2.Mail.Message.Body,.i j5.2.Attempt.Entry,.s j5.2.Attempt.Domain,.l cI j5.2.Attempt.To,.l cI j5.2.Results])]) (fun j89 hr=>?_) (fun j89 hr=>?_)
 .refine qka ((!j5.1.bad)) (fun c90=>?_) (fun c90=>?_)
  .replace hr:=yWa c90 hr
   refine qka (((j5.1.b.length:Int)==0)) (fun c91=>?_) (fun c91=>?_)
   .replace hr:=yWa c91 hr
    obtain ⟨v92,h93,hr⟩:=zaa hr;obtain ⟨v94,h95,hr⟩:=zaa hr;refine drX 20 21 4 8 [18,19] [(86,.bo ((!v94))),(85,.bo ((!v94))),(84,.bo v94),(83,.agg [.i v92.Code,.i v92.Index]),(82,.agg [.i j5.2.Kind,.i j5.2.Now,.s j5.2.Mail.Envelope.From,.l zba.pc j5.2.Mail.Envelope.To,.s j5.2.Mail.Envelope.Id,.l zea.pc j5.2.Mail.Message.Fields,.l cU j5.2.Mail.Message.Body,.i j5.2.Attempt.Entry,.s j5.2.Attempt.Domain,.l cI j5.2.Attempt.To,.l cI j5.2.Results]),(81,.bo true),(80,.bo (((j5.1.b.length:Int)==0))),(79,.bo (((j5.1.b.length:Int)==0))),(78,.i ((j5.1.b.length:Int))),(77,.l cU j5.1.b),(76,.ptr 90005000 0),(75,.ptr 90005000 0),(74,.ptr 90005000 0),(73,.bo true),(72,.bo ((!j5.1.bad))),(71,.bo j5.1.bad),(70,.ptr 90005000 1),(69,.ptr 90005000 0),(68,.ptr 90005000 0),(67,.agg [.i j5.2.Kind,.i j5.2.Now,.s j5.2.Mail.Envelope.From,.l zba.pc j5.2.Mail.Envelope.To,.s j5.2.Mail.Envelope.Id,.l zea.pc j5.2.Mail.Message.Fields,.l cU j5.2.Mail.Message.Body,.i j5.2.Attempt.Entry,.s j5.2.Attempt.Domain,.l cI j5.2.Attempt.To,.l cI j5.2.Results])] [(2,.ptr 2 0),(86,.bo ((!v94)))] [(90005000,.cells [.l cU j5.1.b,.bo j5.1.bad]),(5,.cells [.i j5.2.Kind,.i j5.2.Now,.s j5.2.Mail.Envelope.From,.l zba.pc j5.2.Mail.Envelope.To,.s j5.2.Mail.Envelope.Id,.l zea.pc j5.2.Mail.Message.Fields,.l cU j5.2.Mail.Message.Body,.i j5.2.Attempt.Entry,.s j5.2.Attempt.Domain,.l cI j5.2.Attempt.To,.l cI j5.2.Results]),(4,.cells [.ptr 90005000 0]),(2,.cells [.i j5.2.Kind,.i j5.2.Now,.s j5.2.Mail.Envelope.From,.l zba.pc j5.2.Mail.Envelope.To,.s j5.2.Mail.Envelope.Id,.l zea.pc j5.2.Mail.Message.Fields,.l cU j5.2.Mail.Message.Body,.i j5.2.Attempt.Entry,.s j5.2.Attempt.Domain,.l cI j5.2.Attempt.To,.l cI j5.2.Results])] tk mixed (by kernel_rfl) rfl rfl rfl (pqX tk rfl (.plain rfl) (pqX tk rfl (.plain rfl) (pqX tk rfl (.plain rfl) (pqX tk rfl (.plain rfl) (pqX tk rfl (.plain rfl) (pqX tk rfl (.plain rfl) (.run (.plain rfl) (kwb c90 (zta kVa)) (pqX tk rfl (.yes (d:=73) rfl rfl rfl rfl) (pqX tk rfl (.yes (d:=73) rfl rfl rfl rfl) (pqX tk rfl (.yes (d:=73) rfl rfl rfl rfl) (pqX tk rfl (.yes (d:=73) rfl rfl rfl rfl) (.run (.yes (d:=73) rfl rfl rfl rfl) (zta (qaa (f:=cU) rfl zoa.u)) (pqX tk rfl (.yes (d:=73) rfl rfl rfl rfl) (pqX tk rfl (.plain rfl) (.run (.plain rfl) (kwb c91 (zta kVa)) (pqX tk rfl (.yes (d:=81) rfl rfl rfl rfl) (.run (.yes (d:=81) rfl rfl rfl rfl) (k1a (jka j5.2 v92 h93) rfl) (.run (.yes (d:=81) rfl rfl rfl rfl) (k1a (zPa v92 v94 h95) rfl) (pqX tk rfl (.yes (d:=81) rfl rfl rfl rfl) (pqX tk rfl (.plain rfl) .nil)))))))))))))))))))) rfl rfl rfl rfl (by kernel_rfl)<|rn tk 2 rfl ?_;cases hr;exact jn _ rfl rfl rfl
   replace hr:=yXa c91 hr
   refine drX 20 21 4 8 [18,19] [(86,.bo false),(85,.tup []),(84,.tup []),(83,.tup []),(82,.tup []),(81,.bo false),(80,.bo (((j5.1.b.length:Int)==0))),(79,.bo (((j5.1.b.length:Int)==0))),(78,.i ((j5.1.b.length:Int))),(77,.l cU j5.1.b),(76,.ptr 90005000 0),(75,.ptr 90005000 0),(74,.ptr 90005000 0),(73,.bo true),(72,.bo ((!j5.1.bad))),(71,.bo j5.1.bad),(70,.ptr 90005000 1),(69,.ptr 90005000 0),(68,.ptr 90005000 0),(67,.agg [.i j5.2.Kind,.i j5.2.Now,.s j5.2.Mail.Envelope.From,.l zba.pc j5.2.Mail.Envelope.To,.s j5.2.Mail.Envelope.Id,.l zea.pc j5.2.Mail.Message.Fields,.l cU j5.2.Mail.Message.Body,.i j5.2.Attempt.Entry,.s j5.2.Attempt.Domain,.l cI j5.2.Attempt.To,.l cI j5.2.Results])] [(2,.ptr 2 0),(86,.bo false)] [(90005000,.cells [.l cU j5.1.b,.bo j5.1.bad]),(5,.cells [.i j5.2.Kind,.i j5.2.Now,.s j5.2.Mail.Envelope.From,.l zba.pc j5.2.Mail.Envelope.To,.s j5.2.Mail.Envelope.Id,.l zea.pc j5.2.Mail.Message.Fields,.l cU j5.2.Mail.Message.Body,.i j5.2.Attempt.Entry,.s j5.2.Attempt.Domain,.l cI j5.2.Attempt.To,.l cI j5.2.Results]),(4,.cells [.ptr 90005000 0]),(2,.cells [.i j5.2.Kind,.i j5.2.Now,.s j5.2.Mail.Envelope.From,.l zba.pc j5.2.Mail.Envelope.To,.s j5.2.Mail.Envelope.Id,.l zea.pc j5.2.Mail.Message.Fields,.l cU j5.2.Mail.Message.Body,.i j5.2.Attempt.Entry,.s j5.2.Attempt.Domain,.l cI j5.2.Attempt.To,.l cI j5.2.Results])] tk mixed (by kernel_rfl) rfl rfl rfl (pqX tk rfl (.plain rfl) (pqX tk rfl (.plain rfl) (pqX tk rfl (.plain rfl) (pqX tk rfl (.plain rfl) (pqX tk rfl (.plain rfl) (pqX tk rfl (.plain rfl) (.run (.plain rfl) (kwb c90 (zta kVa)) (pqX tk rfl (.yes (d:=73) rfl rfl rfl rfl) (pqX tk rfl (.yes (d:=73) rfl rfl rfl rfl) (pqX tk rfl (.yes (d:=73) rfl rfl rfl rfl) (pqX tk rfl (.yes (d:=73) rfl rfl rfl rfl) (.run (.yes (d:=73) rfl rfl rfl rfl) (zta (qaa (f:=cU) rfl zoa.u)) (pqX tk rfl (.yes (d:=73) rfl rfl rfl rfl) (pqX tk rfl (.plain rfl) (.run (.plain rfl) (kwb c91 (zta kVa)) (.skip (.no (d:=81) rfl rfl rfl rfl) (.skip (.no (d:=81) rfl rfl rfl rfl) (.skip (.no (d:=81) rfl rfl rfl rfl) (.skip (.no (d:=81) rfl rfl rfl rfl) (pqX tk rfl (.plain rfl) .nil)))))))))))))))))))) rfl rfl rfl rfl (by kernel_rfl)<|rn tk 2 rfl ?_;cases hr;exact jn _ rfl rfl rfl
  replace hr:=yXa c90 hr
  refine drX 20 21 4 8 [18,19] [(86,.bo false),(85,.tup []),(84,.tup []),(83,.tup []),(82,.tup []),(81,.bo false),(80,.bo false),(79,.tup []),(78,.tup []),(77,.tup []),(76,.tup []),(75,.tup []),(74,.tup []),(73,.bo false),(72,.bo ((!j5.1.bad))),(71,.bo j5.1.bad),(70,.ptr 90005000 1),(69,.ptr 90005000 0),(68,.ptr 90005000 0),(67,.agg [.i j5.2.Kind,.i j5.2.Now,.s j5.2.Mail.Envelope.From,.l zba.pc j5.2.Mail.Envelope.To,.s j5.2.Mail.Envelope.Id,.l zea.pc j5.2.Mail.Message.Fields,.l cU j5.2.Mail.Message.Body,.i j5.2.Attempt.Entry,.s j5.2.Attempt.Domain,.l cI j5.2.Attempt.To,.l cI j5.2.Results])] [(2,.ptr 2 0),(86,.bo false)] [(90005000,.cells [.l cU j5.1.b,.bo j5.1.bad]),(5,.cells [.i j5.2.Kind,.i j5.2.Now,.s j5.2.Mail.Envelope.From,.l zba.pc j5.2.Mail.Envelope.To,.s j5.2.Mail.Envelope.Id,.l zea.pc j5.2.Mail.Message.Fields,.l cU j5.2.Mail.Message.Body,.i j5.2.Attempt.Entry,.s j5.2.Attempt.Domain,.l cI j5.2.Attempt.To,.l cI j5.2.Results]),(4,.cells [.ptr 90005000 0]),(2,.cells [.i j5.2.Kind,.i j5.2.Now,.s j5.2.Mail.Envelope.From,.l zba.pc j5.2.Mail.Envelope.To,.s j5.2.Mail.Envelope.Id,.l zea.pc j5.2.Mail.Message.Fields,.l cU j5.2.Mail.Message.Body,.i j5.2.Attempt.Entry,.s j5.2.Attempt.Domain,.l cI j5.2.Attempt.To,.l cI j5.2.Results])] tk mixed (by kernel_rfl) rfl rfl rfl (pqX tk rfl (.plain rfl) (pqX tk rfl (.plain rfl) (pqX tk rfl (.plain rfl) (pqX tk rfl (.plain rfl) (pqX tk rfl (.plain rfl) (pqX tk rfl (.plain rfl) (.run (.plain rfl) (kwb c90 (zta kVa)) (.skip (.no (d:=73) rfl rfl rfl rfl) (.skip (.no (d:=73) rfl rfl rfl rfl) (.skip (.no (d:=73) rfl rfl rfl rfl) (.skip (.no (d:=73) rfl rfl rfl rfl) (.skip (.no (d:=73) rfl rfl rfl rfl) (.skip (.no (d:=73) rfl rfl rfl rfl) (pqX tk rfl (.plain rfl) (pqX tk rfl (.plain rfl) (.skip (.no (d:=81) rfl rfl rfl rfl) (.skip (.no (d:=81) rfl rfl rfl rfl) (.skip (.no (d:=81) rfl rfl rfl rfl) (.skip (.no (d:=81) rfl rfl rfl rfl) (pqX tk rfl (.plain rfl) .nil)))))))))))))))))))) rfl rfl rfl rfl (by kernel_rfl)<|rn tk 2 rfl ?_;cases hr;exact jn _ rfl rfl rfl
 refine rn tk 1 rfl ?_;cases hr;exact kr tk (.inr rfl) rfl rfl
theorem K3a(a0:List UInt8)(r:(List zha) × Int × zqa)(hr:w6a a0=some r):Run prog 13 [.l cU a0] (.tup [.l zha.pc r.1,.i r.2.1,.agg [.i r.2.2.Code,.i r.2.2.Index]]):=by
 unfold w6a at hr;refine rf (fn:=f13) ⟨func13,rfl,by kernel_rfl⟩ rfl (fun _=>rfl) fun g0 hg=>?_
 refine rn tk 11 rfl<|wn tk rfl rfl rfl<|rn tk 3 rfl<|ac 11 hr rfl (fun c1 hr=>?_) (fun c1 hr=>?_)
 .refine rn tk 2 rfl ?_;obtain ⟨v2,h3,hr⟩:=zaa hr;refine cl (zka _ _ _ h3) rfl rfl<|rn tk 7 rfl ?_;cases hr;exact kr tk (.inr rfl) rfl rfl
 refine rn tk 5 rfl ?_;refine woa 1005 (o:=5) (j:=0) 35 11 rfl rfl rfl rfl (hO ?_);refine rn tk 8 rfl<|jb hr (fun j4=>[(4,.ptr 4 0),(5,.ptr 5 0),(6,.ptr 6 0)]) (fun j4=>[(6,.cells [.i j4.1]),(1005,.row 35 false 11 (List.map zha.pc j4.2)),(5,.cells [.hs 1005 0]),(4,.cells [.i 0,.i 0])]) (fun j4 hr=>?_) (fun j4 hr=>?_)
 .refine rn tk 3 rfl<|il (fn:=f36) (args:=[.l cU a0]) 600000 699999 [(4,.ptr 4 0),(5,.ptr 5 0),(6,.ptr 6 0)] rfl ⟨func36,rfl,by kernel_rfl⟩ rfl rfl rfl fun T6 ds6=>?_
  refine rn tk 13 rfl ?_;refine ie tk [.fn (.func 57) [] [.ptr 1 0]] [(4,.ptr 4 0),(5,.ptr 5 0),(6,.ptr 6 0)] [(1,.cells [.l cU a0]),(6,.cells [.i 0]),(1005,.row 35 false 11 (List.map zha.pc (([]:List zha)))),(5,.cells [.hs 1005 0]),(4,.cells [.i 0,.i 0])] (.inr rfl) rfl rfl rfl rfl (hO ?_);refine rn tk 3 rfl ?_;refine q7b (fn0:=f57) 700000 799998 799999 [(4,.ptr 4 0),(5,.ptr 5 0),(6,.ptr 6 0),(14,.fn (.func 57) [] [.ptr 1 0])] rfl rfl rfl ⟨func57,rfl,by kernel_rfl⟩ rfl rfl rfl rfl rfl (.cons rfl (.cons rfl (.cons rfl (.cons rfl .nil)))) fun T7 rb7 L7 ds7 hT7 hLs7 hLp7 hLt7 hLq7 hLa7 hLb7=>hB mono_itr ?_
  refine rn tk 6 rfl<|al2 hr (fun s5=>[(0,.fn (.yield rb7) [] []),(1,.ptr 1 0),(3,.i s5.1)]) (fun s5=>[(799999,.sus g0.w.heap.size ds7),(799998,.lp rb7 L7),(700004,.hold (.ptr 4 0) (T7.getD 4 undef)),(700005,.hold (.ptr 5 0) (T7.getD 5 undef)),(700006,.hold (.ptr 6 0) (T7.getD 6 undef)),(700014,.hold (.fn (.func 57) [] [.ptr 1 0]) (T7.getD 14 undef)),(1,.cells [.l cU a0]),(6,.cells [.i s5.2.1]),(1005,.row 35 false 11 (List.map zha.pc s5.2.2)),(5,.cells [.hs 1005 0]),(4,.cells [.i 0,.i 0])]) .ret (fun b6=>[]) (fun b6=>[(799999,.sus g0.w.heap.size ds7),(799998,.lp rb7 L7),(700004,.hold (.ptr 4 0) (T7.getD 4 undef)),(700005,.hold (.ptr 5 0) (T7.getD 5 undef)),(700006,.hold (.ptr 6 0) (T7.getD 6 undef)),(700014,.hold (.fn (.func 57) [] [.ptr 1 0]) (T7.getD 14 undef)),(1,.cells [.l cU a0]),(6,.cells [.i b6.1]),(1005,.row 35 false 11 (List.map zha.pc b6.2)),(5,.cells [.hs 1005 0]),(4,.cells [.i 0,.i 0])]) .ret (fun b7=>[]) (fun b7=>[(799999,.sus g0.w.heap.size ds7),(799998,.lp rb7 ((stop L7 (.exit 0)))),(700004,.hold (.ptr 4 0) (T7.getD 4 undef)),(700005,.hold (.ptr 5 0) (T7.getD 5 undef)),(700006,.hold (.ptr 6 0) (T7.getD 6 undef)),(700014,.hold (.fn (.func 57) [] [.ptr 1 0]) (T7.getD 14 undef)),(1,.cells [.l cU a0]),(6,.cells [.i b7.1]),(1005,.row 35 false 11 (List.map zha.pc b7.2)),(5,.cells [.hs 1005 0]),(4,.cells [.i 0,.i 0])]) rfl rfl (fun s5 x9 hr=>?_) (fun b6 hr=>?_) (fun b7 hr=>?_)
  .unfold vha at hr;refine rn tk 5 rfl ?_;obtain ⟨v10,h11,hr⟩:=zaa hr;refine wlL tk h11 rfl rfl rfl (fun _=>rfl) rfl<|rn tk 1 rfl<|wo (Kxa (k:=13) 90005000 rfl rfl rfl rfl rfl) rfl<|rn tk 6 rfl ?_;obtain ⟨v12,h13,hr⟩:=zaa hr;refine wo (zUa (k:=15) (kia ((zja.mk v10 false)) v12 h13) rfl rfl (zda rfl zna)) rfl<|rn tk 6 rfl ?_;obtain ⟨v14,h15,hr⟩:=zaa hr;refine wo (zUa (k:=17) (zCa v12.2 v14 h15) rfl rfl (zda rfl zna)) rfl<|rn tk 11 rfl<|ac 21 hr rfl (fun c16 hr=>?_) (fun c16 hr=>?_)
   .refine rn tk 3 rfl ?_;cases hr;exact ato rfl rfl rfl rfl
   refine rn tk 5 rfl<|wo (ZAa (d:=24) rfl rfl (y1a (k:=0) rfl z2a zoa zNa)) rfl ?_;obtain ⟨v17,h18,hr⟩:=zaa hr;refine cl (YPa _ _ h18) rfl rfl<|rn tk 3 rfl<|wo (Kwa (k:=6) 1006 rfl qGa (.inr ⟨rfl,rfl⟩) rfl rfl rfl) rfl<|rn tk 7 rfl ?_;obtain ⟨v19,h20,hr⟩:=zaa hr;refine cl (ZLa _ _ h20) rfl rfl<|rn tk 4 rfl<|jb hr (fun j21=>[(0,.fn (.yield rb7) [] []),(1,.ptr 1 0),(3,.i s5.1),(6,.ptr 1006 0),(8,.l cU v19),(39,.bo j21)]) (fun j21=>[(1006,.cells [.i v17.1.Kind,.i v17.1.Now,.s v17.1.Mail.Envelope.From,.l zba.pc v17.1.Mail.Envelope.To,.s v17.1.Mail.Envelope.Id,.l zea.pc v17.1.Mail.Message.Fields,.l cU v17.1.Mail.Message.Body,.i v17.1.Attempt.Entry,.s v17.1.Attempt.Domain,.l cI v17.1.Attempt.To,.l cI v17.1.Results]),(799999,.sus g0.w.heap.size ds7),(799998,.lp rb7 L7),(700004,.hold (.ptr 4 0) (T7.getD 4 undef)),(700005,.hold (.ptr 5 0) (T7.getD 5 undef)),(700006,.hold (.ptr 6 0) (T7.getD 6 undef)),(700014,.hold (.fn (.func 57) [] [.ptr 1 0]) (T7.getD 14 undef)),(1,.cells [.l cU a0]),(6,.cells [.i s5.2.1]),(1005,.row 35 false 11 (List.map zha.pc s5.2.2)),(5,.cells [.hs 1005 0]),(4,.cells [.i 0,.i 0])]) (fun j21 hr=>?_) (fun j21 hr=>?_)
   .refine rn tk 4 rfl<|bs 32 hr rfl (fun c22 hr=>?_) (fun c22 hr=>?_)
    .refine rn tk 8 rfl ?_;cases hr;exact jn _ rfl rfl rfl
    refine rn tk 2 rfl ?_;obtain ⟨v23,h24,hr⟩:=zaa hr;refine ug rfl rfl rfl<|wlL tk h24 rfl rfl rfl (fun _=>rfl) rfl<|rn tk 1 rfl ?_;obtain ⟨v25,h26,hr⟩:=zaa hr;refine ug rfl rfl rfl<|cl (Qqa _ _ _ h26) rfl rfl<|rn tk 3 rfl ?_;cases hr;exact jn _ rfl rfl rfl
   refine ac 39 hr rfl (fun c27 hr=>?_) (fun c27 hr=>?_)
   .refine rn tk 3 rfl ?_;cases hr;exact ato rfl rfl rfl rfl
   refine rn tk 6 rfl<|wn tk rfl rfl rfl<|rn tk 9 rfl ?_;refine kGb (ps:=[15,16]) (args:=[.agg [.i v17.1.Kind,.i v17.1.Now,.s v17.1.Mail.Envelope.From,.l zba.pc v17.1.Mail.Envelope.To,.s v17.1.Mail.Envelope.Id,.l zea.pc v17.1.Mail.Message.Fields,.l cU v17.1.Mail.Message.Body,.i v17.1.Attempt.Entry,.s v17.1.Attempt.Domain,.l cI v17.1.Attempt.To,.l cI v17.1.Results],.i ((w64 (s5.1+(v19.length:Int))))]) 700000 1000000 799998 1099999 [(4,.ptr 4 0),(5,.ptr 5 0),(6,.ptr 6 0),(14,.fn (.func 57) [] [.ptr 1 0])] [(0,.fn (.yield rb7) [] []),(1,.ptr 1 0),(3,.i ((w64 (s5.1+(v19.length:Int)))))] (zBa rfl) rfl rfl hLs7 hLp7 hLt7 hLq7 hLa7 hLb7 hT7 rfl rfl rfl rfl (.cons rfl (.cons rfl (.cons rfl .nil))) (.cons rfl (.cons rfl (.cons rfl (.cons rfl .nil)))) fun T10 ds10 hT10=>hB mono_asg ?_
   refine rn tk 9 rfl ?_;refine asgK v7a yNa rfl (hB mono_rnd ?_);refine rn tk 5 rfl<|wz zha.pc ([v17.1]:List zha) tk rfl rfl (fun _=>rfl) rfl rfl rfl ?_;obtain ⟨v28,h29,hr⟩:=zaa hr;refine wa tk h29 rfl rfl rfl rfl (fun _=>rfl) rfl rfl<|rn tk 12 rfl<|wnh tk rfl rfl rfl rfl<|rn tk 3 rfl<|ac 24 hr rfl (fun c30 hr=>?_) (fun c30 hr=>?_)
   .refine rn tk 2 rfl ?_;refine rndK (fr' :=[]) (fr'' :=[(0,.fn (.yield rb7) [] []),(1,.ptr 1 0),(3,.i ((w64 (s5.1+(v19.length:Int)))))]) (σ'' :=[(7,.cells [.i v17.1.Kind,.i v17.1.Now,.s v17.1.Mail.Envelope.From,.l zba.pc v17.1.Mail.Envelope.To,.s v17.1.Mail.Envelope.Id,.l zea.pc v17.1.Mail.Message.Fields,.l cU v17.1.Mail.Message.Body,.i v17.1.Attempt.Entry,.s v17.1.Attempt.Domain,.l cI v17.1.Attempt.To,.l cI v17.1.Results]),(1006,.cells [.i v17.1.Kind,.i v17.1.Now,.s v17.1.Mail.Envelope.From,.l zba.pc v17.1.Mail.Envelope.To,.s v17.1.Mail.Envelope.Id,.l zea.pc v17.1.Mail.Message.Fields,.l cU v17.1.Mail.Message.Body,.i v17.1.Attempt.Entry,.s v17.1.Attempt.Domain,.l cI v17.1.Attempt.To,.l cI v17.1.Results]),(799999,.sus g0.w.heap.size ds7),(799998,.lp rb7 ((stop L7 (.exit 0)))),(700004,.hold (.ptr 4 0) (T7.getD 4 undef)),(700005,.hold (.ptr 5 0) (T7.getD 5 undef)),(700006,.hold (.ptr 6 0) (T7.getD 6 undef)),(700014,.hold (.fn (.func 57) [] [.ptr 1 0]) (T7.getD 14 undef)),(1,.cells [.l cU a0]),(6,.cells [.i ((w64 (s5.1+(v19.length:Int))))]),(1005,.row 35 false 11 (List.map zha.pc v28)),(5,.cells [.hs 1005 0]),(4,.cells [.i 0,.i 0])]) (.exit 0) yNa rfl (.cons rfl (.cons rfl (.cons rfl .nil))) rfl (zda rfl (zda rfl (zda rfl (zda rfl (zda rfl (zda rfl (zda rfl (zda rfl (zda rfl (zda rfl (zda rfl (zda rfl (zda rfl zna))))))))))))) (hO ?_);refine rn tk 6 rfl ?_;cases hr;exact ato rfl rfl rfl rfl
   refine rn tk 2 rfl ?_;refine rndK (fr' :=[]) (fr'' :=[(0,.fn (.yield rb7) [] []),(1,.ptr 1 0),(3,.i ((w64 (s5.1+(v19.length:Int)))))]) (σ'' :=[(7,.cells [.i v17.1.Kind,.i v17.1.Now,.s v17.1.Mail.Envelope.From,.l zba.pc v17.1.Mail.Envelope.To,.s v17.1.Mail.Envelope.Id,.l zea.pc v17.1.Mail.Message.Fields,.l cU v17.1.Mail.Message.Body,.i v17.1.Attempt.Entry,.s v17.1.Attempt.Domain,.l cI v17.1.Attempt.To,.l cI v17.1.Results]),(1006,.cells [.i v17.1.Kind,.i v17.1.Now,.s v17.1.Mail.Envelope.From,.l zba.pc v17.1.Mail.Envelope.To,.s v17.1.Mail.Envelope.Id,.l zea.pc v17.1.Mail.Message.Fields,.l cU v17.1.Mail.Message.Body,.i v17.1.Attempt.Entry,.s v17.1.Attempt.Domain,.l cI v17.1.Attempt.To,.l cI v17.1.Results]),(799999,.sus g0.w.heap.size ds7),(799998,.lp rb7 L7),(700004,.hold (.ptr 4 0) (T7.getD 4 undef)),(700005,.hold (.ptr 5 0) (T7.getD 5 undef)),(700006,.hold (.ptr 6 0) (T7.getD 6 undef)),(700014,.hold (.fn (.func 57) [] [.ptr 1 0]) (T7.getD 14 undef)),(1,.cells [.l cU a0]),(6,.cells [.i ((w64 (s5.1+(v19.length:Int))))]),(1005,.row 35 false 11 (List.map zha.pc v28)),(5,.cells [.hs 1005 0]),(4,.cells [.i 0,.i 0])]) .off yNa rfl (.cons rfl (.cons rfl (.cons rfl .nil))) rfl (zda rfl (zda rfl (zda rfl (zda rfl (zda rfl (zda rfl (zda rfl (zda rfl (zda rfl (zda rfl (zda rfl (zda rfl (zda rfl zna))))))))))))) (hO ?_);refine rn tk 6 rfl ?_;cases hr;exact atc rfl rfl
  .refine rn tk 1 rfl ?_;refine itrK (fr' :=[]) (L' :=L7) (fr'' :=[(4,.ptr 4 0),(5,.ptr 5 0),(6,.ptr 6 0),(14,.fn (.func 57) [] [.ptr 1 0])]) (σ'' :=[(1,.cells [.l cU a0]),(6,.cells [.i b6.1]),(1005,.row 35 false 11 (List.map zha.pc b6.2)),(5,.cells [.hs 1005 0]),(4,.cells [.i 0,.i 0])]) (.inl rfl) yNa rfl (.cons rfl (.cons rfl (.cons rfl (.cons rfl .nil)))) rfl (zda rfl (zda rfl (zda rfl (zda rfl (zda rfl zna))))) rfl<|.off (hA ?_);refine rn tk 1 rfl ?_;cases hr;exact jn _ rfl rfl rfl
  refine rn tk 1 rfl ?_;refine itrK (fr' :=[]) (L' :=(stop L7 (.exit 0))) (fr'' :=[(4,.ptr 4 0),(5,.ptr 5 0),(6,.ptr 6 0),(14,.fn (.func 57) [] [.ptr 1 0])]) (σ'' :=[(1,.cells [.l cU a0]),(6,.cells [.i b7.1]),(1005,.row 35 false 11 (List.map zha.pc b7.2)),(5,.cells [.hs 1005 0]),(4,.cells [.i 0,.i 0])]) (.inl rfl) yNa rfl (.cons rfl (.cons rfl (.cons rfl (.cons rfl .nil)))) rfl (zda rfl (zda rfl (zda rfl (zda rfl (zda rfl zna))))) rfl<|.jump (hC ?_);refine rn tk 2 rfl ?_;cases hr;exact jn _ rfl rfl rfl
 refine rn tk 1 rfl ?_;obtain ⟨v31,h32,hr⟩:=zaa hr;refine dr 4 [(2,.hs 1005 0),(27,.agg [.i v31.Code,.i v31.Index]),(26,.i j4.1),(25,.hs 1005 0)] mixed (by kernel_rfl) rfl rfl (pq tk rfl (.plain rfl) (pq tk rfl (.plain rfl) (.run (.plain rfl) (k1a (zWa v31 h32) rfl) (pq tk rfl (.plain rfl) .nil)))) rfl<|rn tk 4 rfl ?_;refine vxa (d:=2) (F:=zha.pc) (l:=j4.2) rfl rfl (hC ?_);refine rn tk 1 rfl ?_;cases hr;exact kr tk (.inr rfl) rfl rfl
theorem wja(a0:List zea)(r:List zea)(hr:kqa a0=some r):Run prog 109 [.l zea.pc a0] (.l zea.pc r):=by
 unfold kqa at hr;refine rf (fn:=f109) ⟨func109,rfl,by kernel_rfl⟩ rfl (fun _=>rfl) fun g0 hg=>?_
 refine rn tk 9 rfl ?_;refine jNa (d:=3) (F:=zea.pc) (l:=a0) rfl rfl rfl qga (fun c1=>hO ?_) (hO ?_)
 .replace hr:=QAa c1 hr
  refine rn tk 10 rfl ?_;cases hr;exact kr tk (.inr rfl) rfl rfl
 replace hr:=QBa hr
 refine rn tk 7 rfl<|wo (ZXa (k:=5) rfl qga qFa) rfl<|rn tk 1 rfl ?_;obtain ⟨v2,h3,hr⟩:=zaa hr;refine wo (yha (k:=7) (F:=zea.pc) (xs:=a0) (lim:=4398046511104) 1002 rfl rfl rfl qga qFa rfl rfl (fun _=>rfl) rfl rfl rfl h3) rfl<|rn tk 3 rfl ?_;refine Zfa 1002 rfl (hC ?_);refine vxa (d:=2) (F:=zea.pc) (l:=v2) rfl rfl (hC ?_);refine rn tk 1 rfl ?_;cases hr;exact kr tk (.inr rfl) rfl rfl
theorem vBa(a0:kca)(r:kca)(hr:qha a0=some r):Run prog 69 [.agg [.s a0.Envelope.From,.l zba.pc a0.Envelope.To,.s a0.Envelope.Id,.l zea.pc a0.Message.Fields,.l cU a0.Message.Body]] (.agg [.s r.Envelope.From,.l zba.pc r.Envelope.To,.s r.Envelope.Id,.l zea.pc r.Message.Fields,.l cU r.Message.Body]):=by
 unfold qha at hr;refine rf (fn:=f69) ⟨func69,rfl,by kernel_rfl⟩ rfl (fun _=>rfl) fun g0 hg=>?_
 refine rn tk 11 rfl<|ct hr (fun j1=>[(1,.ptr 1 0),(2,.ptr 2 0),(6,.l zba.pc j1)]) (fun j1=>[(2,.cells [.s (([]:Str)),.l zba.pc ([]),.s (([]:Str)),.l zea.pc ([]),.l cU ([])]),(1,.cells [.s a0.Envelope.From,.l zba.pc a0.Envelope.To,.s a0.Envelope.Id,.l zea.pc a0.Message.Fields,.l cU a0.Message.Body])]) (fun j1 hr jump1=>?_) (fun j1 hr=>?_)
 .refine il (fn:=f108) (args:=[.l zba.pc a0.Envelope.To]) 100000 199999 [(1,.ptr 1 0),(2,.ptr 2 0)] rfl ⟨func108,rfl,by kernel_rfl⟩ rfl rfl rfl fun T1 ds1=>?_
  refine rn tk 9 rfl ?_;refine jNa (d:=3) (F:=zba.pc) (l:=a0.Envelope.To) rfl rfl rfl kga (fun c2=>hO ?_) (hO ?_)
  .replace hr:=QAa c2 hr
   refine rn tk 10 rfl ?_;refine ie tk [.pv (.sl (some true) [])] [(1,.ptr 1 0),(2,.ptr 2 0)] [(2,.cells [.s (([]:Str)),.pv (.sl (some true) []),.s (([]:Str)),.pv (.sl (some true) []),.pv (.sl (some true) [])]),(1,.cells [.s a0.Envelope.From,.l zba.pc a0.Envelope.To,.s a0.Envelope.Id,.l zea.pc a0.Message.Fields,.l cU a0.Message.Body])] (.inr rfl) rfl rfl rfl rfl ?_;cases hr;exact jump1 _ _ rfl rfl
  replace hr:=QBa hr
  refine rn tk 7 rfl<|wo (ZXa (k:=5) rfl kga kea) rfl<|rn tk 1 rfl ?_;obtain ⟨v3,h4,hr⟩:=zaa hr;refine wo (yha (k:=7) (F:=zba.pc) (xs:=a0.Envelope.To) (lim:=5864062014805) 1002 rfl rfl rfl kga kea rfl rfl (fun _=>rfl) rfl rfl rfl h4) rfl<|rn tk 3 rfl ?_;refine Zfa 1002 rfl (hC ?_);refine vxa (d:=2) (F:=zba.pc) (l:=v3) rfl rfl (hC ?_);refine rn tk 1 rfl ?_;refine ie tk [.l zba.pc v3] [(1,.ptr 1 0),(2,.ptr 2 0)] [(1002,.row 78 false 2 (List.map zba.pc v3)),(2,.cells [.s (([]:Str)),.pv (.sl (some true) []),.s (([]:Str)),.pv (.sl (some true) []),.pv (.sl (some true) [])]),(1,.cells [.s a0.Envelope.From,.l zba.pc a0.Envelope.To,.s a0.Envelope.Id,.l zea.pc a0.Message.Fields,.l cU a0.Message.Body])] (.inr rfl) rfl rfl rfl rfl ?_;cases hr;exact jump1 _ _ rfl rfl
 refine rn tk 6 rfl ?_;obtain ⟨v5,h6,hr⟩:=zaa hr;refine dr 7 [(15,.l cU a0.Message.Body),(14,.ptr 1 4),(13,.ptr 1 3),(12,.l zea.pc v5),(11,.l zea.pc a0.Message.Fields),(10,.ptr 1 3),(9,.ptr 1 3)] mixed (by kernel_rfl) rfl rfl (pq tk rfl (.plain rfl) (pq tk rfl (.plain rfl) (pq tk rfl (.plain rfl) (.run (.plain rfl) (k1a (wja a0.Message.Fields v5 h6) rfl) (pq tk rfl (.plain rfl) (pq tk rfl (.plain rfl) (pq tk rfl (.plain rfl) .nil))))))) rfl<|ct hr (fun j7=>[(1,.ptr 1 0),(2,.ptr 2 0),(12,.l zea.pc v5),(16,.l cU j7)]) (fun j7=>[(2,.cells [.s (([]:Str)),.l zba.pc ([]),.s (([]:Str)),.l zea.pc ([]),.l cU ([])]),(1,.cells [.s a0.Envelope.From,.l zba.pc j1,.s a0.Envelope.Id,.l zea.pc a0.Message.Fields,.l cU a0.Message.Body])]) (fun j7 hr jump2=>?_) (fun j7 hr=>?_)
 .refine il (fn:=f110) (args:=[.l cU a0.Message.Body]) 200000 299999 [(1,.ptr 1 0),(2,.ptr 2 0),(12,.l zea.pc v5)] rfl ⟨func110,rfl,by kernel_rfl⟩ rfl rfl rfl fun T2 ds2=>?_
  refine rn tk 9 rfl ?_;refine jNa (d:=3) (F:=cU) (l:=a0.Message.Body) rfl rfl rfl zoa (fun c8=>hO ?_) (hO ?_)
  .replace hr:=QAa c8 hr
   refine rn tk 10 rfl ?_;refine ie tk [.pv (.sl (some true) [])] [(1,.ptr 1 0),(2,.ptr 2 0),(12,.l zea.pc v5)] [(2,.cells [.s (([]:Str)),.l zba.pc ([]),.s (([]:Str)),.l zea.pc ([]),.l cU ([])]),(1,.cells [.s a0.Envelope.From,.l zba.pc j1,.s a0.Envelope.Id,.l zea.pc a0.Message.Fields,.l cU a0.Message.Body])] (.inr rfl) rfl rfl rfl rfl ?_;cases hr;exact jump2 _ _ rfl rfl
  replace hr:=QBa hr
  refine rn tk 7 rfl<|wo (ZXa (k:=5) rfl zoa zNa) rfl<|rn tk 1 rfl ?_;obtain ⟨v9,h10,hr⟩:=zaa hr;refine wo (yha (k:=7) (F:=cU) (xs:=a0.Message.Body) (lim:=140737488355328) 1002 rfl rfl rfl zoa zNa rfl rfl (fun _=>rfl) rfl rfl rfl h10) rfl<|rn tk 3 rfl ?_;refine Zfa 1002 rfl (hC ?_);refine vxa (d:=2) (F:=cU) (l:=v9) rfl rfl (hC ?_);refine rn tk 1 rfl ?_;refine ie tk [.l cU v9] [(1,.ptr 1 0),(2,.ptr 2 0),(12,.l zea.pc v5)] [(1002,.row 5 false 1 (List.map cU v9)),(2,.cells [.s (([]:Str)),.l zba.pc ([]),.s (([]:Str)),.l zea.pc ([]),.l cU ([])]),(1,.cells [.s a0.Envelope.From,.l zba.pc j1,.s a0.Envelope.Id,.l zea.pc a0.Message.Fields,.l cU a0.Message.Body])] (.inr rfl) rfl rfl rfl rfl ?_;cases hr;exact jump2 _ _ rfl rfl
 refine rn tk 12 rfl ?_;cases hr;exact kr tk (.inr rfl) rfl rfl
theorem j8a(a0:zca)(r:Bool)(hr:vba a0=some r):Run prog 76 [.agg [.i a0.Id,.s a0.Mail.Envelope.From,.l zba.pc a0.Mail.Envelope.To,.s a0.Mail.Envelope.Id,.l zea.pc a0.Mail.Message.Fields,.l cU a0.Mail.Message.Body,.i a0.Since,.i a0.Tries,.i a0.Due,.l zia.pc a0.To]] (.bo r):=by
 unfold vba at hr;refine rf (fn:=f76) ⟨func76,rfl,by kernel_rfl⟩ rfl (fun _=>rfl) fun g0 hg=>?_
 refine rn tk 20 rfl<|wn tk rfl rfl rfl<|rn tk 1 rfl<|wn tk rfl rfl rfl<|rn tk 3 rfl<|ac 16 hr rfl (fun c1 hr=>?_) (fun c1 hr=>?_)
 .refine rn tk 7 rfl ?_;cases hr;exact kr tk (.inr rfl) rfl rfl
 refine rn tk 12 rfl<|wn tk rfl rfl rfl<|rn tk 4 rfl<|al2 hr (fun s2=>[(3,.l zba.pc a0.Mail.Envelope.To),(4,.bo s2.1),(18,.l zia.pc a0.To),(19,.i ((a0.To.length:Int))),(20,.i s2.2)]) (fun s2=>[]) (.exit 0) (fun b3=>[(4,.bo b3)]) (fun b3=>[]) .ret (fun b4=>[(2,.bo b4)]) (fun b4=>[]) rfl rfl (fun s2 x6 hr=>?_) (fun b3 hr=>?_) (fun b4 hr=>?_)
 .unfold qza at hr;refine rn tk 6 rfl<|ac 21 hr rfl (fun c7 hr=>?_) (fun c7 hr=>?_)
  .refine rn tk 2 rfl<|jk (fun j8=>[(3,.l zba.pc a0.Mail.Envelope.To),(4,.bo j8),(18,.l zia.pc a0.To),(19,.i ((a0.To.length:Int))),(20,.i s2.2)]) (fun j8=>[]) (fun j8=>vpa s2 j8=some x6) ?_ ?_
   .refine rn tk 4 rfl ?_;obtain ⟨v9,h10,hr⟩:=zaa hr;refine wi tk h10 rfl rfl rfl rfl rfl<|rn tk 7 rfl<|jb hr (fun j11=>[(3,.l zba.pc a0.Mail.Envelope.To),(4,.bo s2.1),(6,.ptr 6 0),(18,.l zia.pc a0.To),(19,.i ((a0.To.length:Int))),(20,.i s2.2),(55,.bo j11)]) (fun j11=>[(6,.cells [.s v9.Recipient.Address,.i v9.Recipient.Notify,.i v9.Result,.bo v9.Busy])]) (fun j11 hr=>?_) (fun j11 hr=>?_)
    .obtain ⟨v12,h13,hr⟩:=zaa hr;refine dr 6 [(30,.agg [.s v12.Address,.i v12.Notify]),(29,.ep [pS v12.Address,pI v12.Notify]),(28,.i s2.2),(27,.l zba.pc a0.Mail.Envelope.To),(26,.agg [.s v9.Recipient.Address,.i v9.Recipient.Notify]),(25,.ptr 6 0)] mixed (by kernel_rfl) rfl rfl (pq tk rfl (.plain rfl) (pq tk rfl (.plain rfl) (pq tk rfl (.plain rfl) (pq tk rfl (.plain rfl) (.run (.plain rfl) (zta (wYa (f:=zba.pc) rfl rfl kga kea rfl h13)) (pq tk rfl (.plain rfl) .nil)))))) rfl<|wq (Zea rfl rfl kea jQa (.str rfl (by decide) z2a (.int rfl (by decide) z7a .nil))) rfl rfl rfl<|rn tk 1 rfl<|bs 32 hr rfl (fun c14 hr=>?_) (fun c14 hr=>?_)
     .refine rn tk 24 rfl ?_;cases hr;exact jn _ rfl rfl rfl
     refine rn tk 4 rfl<|bs 36 hr rfl (fun c15 hr=>?_) (fun c15 hr=>?_)
     .refine rn tk 5 rfl<|bs 41 hr rfl (fun c16 hr=>?_) (fun c16 hr=>?_)
      .refine rn tk 6 rfl<|bs 47 hr rfl (fun c17 hr=>?_) (fun c17 hr=>?_)
       .refine rn tk 9 rfl ?_;cases hr;exact jn _ rfl rfl rfl
       refine rn tk 3 rfl<|bs 50 hr rfl (fun c18 hr=>?_) (fun c18 hr=>?_)
       .refine rn tk 6 rfl ?_;cases hr;exact jn _ rfl rfl rfl
       refine rn tk 6 rfl ?_;cases hr;exact jn _ rfl rfl rfl
      refine rn tk 9 rfl<|bs 50 hr rfl (fun c19 hr=>?_) (fun c19 hr=>?_)
      .refine rn tk 6 rfl ?_;cases hr;exact jn _ rfl rfl rfl
      refine rn tk 6 rfl ?_;cases hr;exact jn _ rfl rfl rfl
     refine rn tk 14 rfl<|bs 50 hr rfl (fun c20 hr=>?_) (fun c20 hr=>?_)
     .refine rn tk 6 rfl ?_;cases hr;exact jn _ rfl rfl rfl
     refine rn tk 6 rfl ?_;cases hr;exact jn _ rfl rfl rfl
    refine ac 55 hr rfl (fun c21 hr=>?_) (fun c21 hr=>?_)
    .refine rn tk 9 rfl ?_;cases hr;exact ato rfl rfl rfl rfl
    refine rn tk 5 rfl<|bs 57 hr rfl (fun c22 hr=>?_) (fun c22 hr=>?_)
    .refine rn tk 7 rfl<|jn true hr rfl rfl
    refine rn tk 7 rfl<|jn ((v9.Result==0)) hr rfl rfl
   intro j8 hr;unfold vpa at hr;refine rn tk 4 rfl ?_;cases hr;exact atc rfl rfl
  refine rn tk 2 rfl ?_;cases hr;exact ato rfl rfl rfl rfl
 .refine rn tk 9 rfl ?_;cases hr;exact kr tk (.inr rfl) rfl rfl
 refine rn tk 2 rfl ?_;cases hr;exact kr tk (.inr rfl) rfl rfl
theorem jBa(a0:zza)(r:zqa)(hr:vua a0=some r):Run prog 67 [.agg [.l zca.pc a0.Entries,.i a0.Next]] (.agg [.i r.Code,.i r.Index]):=by
 unfold vua at hr;refine rf (fn:=f67) ⟨func67,rfl,by kernel_rfl⟩ rfl (fun _=>rfl) fun g0 hg=>?_
 refine rn tk 11 rfl<|wn tk rfl rfl rfl<|rn tk 3 rfl<|ac 10 hr rfl (fun c1 hr=>?_) (fun c1 hr=>?_)
 .refine rn tk 2 rfl ?_;obtain ⟨v2,h3,hr⟩:=zaa hr;refine cl (zka _ _ _ h3) rfl rfl<|rn tk 5 rfl ?_;cases hr;exact kr tk (.inr rfl) rfl rfl
 refine rn tk 3 rfl<|jb hr (fun j4=>[(1,.ptr 1 0),(2,.ptr 2 0),(19,.bo j4)]) (fun j4=>[(2,.cells [.i 0,.i 0]),(1,.cells [.l zca.pc a0.Entries,.i a0.Next])]) (fun j4 hr=>?_) (fun j4 hr=>?_)
 .refine rn tk 5 rfl<|bs 15 hr rfl (fun c5 hr=>?_) (fun c5 hr=>?_)
  .refine rn tk 5 rfl ?_;cases hr;exact jn _ rfl rfl rfl
  refine rn tk 5 rfl ?_;cases hr;exact jn _ rfl rfl rfl
 refine ac 19 hr rfl (fun c6 hr=>?_) (fun c6 hr=>?_)
 .refine rn tk 2 rfl ?_;obtain ⟨v7,h8,hr⟩:=zaa hr;refine cl (zka _ _ _ h8) rfl rfl<|rn tk 5 rfl ?_;cases hr;exact kr tk (.inr rfl) rfl rfl
 refine rn tk 12 rfl<|wn tk rfl rfl rfl<|rn tk 4 rfl<|al2 hr (fun s9=>[(1,.ptr 1 0),(2,.ptr 2 0),(3,.i s9.1),(22,.l zca.pc a0.Entries),(23,.i ((a0.Entries.length:Int))),(24,.i s9.2)]) (fun s9=>[(2,.cells [.i 0,.i 0]),(1,.cells [.l zca.pc a0.Entries,.i a0.Next])]) (.exit 0) (fun b10=>[(2,.ptr 2 0)]) (fun b10=>[(2,.cells [.i 0,.i 0])]) .ret (fun b11=>[(2,.ptr 2 0)]) (fun b11=>[(2,.cells [.i b11.Code,.i b11.Index])]) rfl rfl (fun s9 x13 hr=>?_) (fun b10 hr=>?_) (fun b11 hr=>?_)
 .unfold qma at hr;refine rn tk 6 rfl<|ac 25 hr rfl (fun c14 hr=>?_) (fun c14 hr=>?_)
  .refine rn tk 7 rfl ?_;obtain ⟨v15,h16,hr⟩:=zaa hr;refine wi tk h16 rfl rfl rfl rfl rfl<|rn tk 10 rfl ?_;obtain ⟨v17,h18,hr⟩:=zaa hr;refine cl (wXa _ _ h18) rfl rfl<|rn tk 9 rfl ?_;obtain ⟨v19,h20,hr⟩:=zaa hr;refine cl (zPa _ _ h20) rfl rfl<|rn tk 3 rfl<|ac 32 hr rfl (fun c21 hr=>?_) (fun c21 hr=>?_)
   .refine rn tk 5 rfl ?_;obtain ⟨v22,h23,hr⟩:=zaa hr;refine cl (zka _ _ _ h23) rfl rfl<|rn tk 8 rfl ?_;cases hr;exact ato rfl rfl rfl rfl
   refine jb hr (fun j24=>[(1,.ptr 1 0),(2,.ptr 2 0),(4,.i s9.2),(5,.ptr 5 0),(22,.l zca.pc a0.Entries),(23,.i ((a0.Entries.length:Int))),(24,.i s9.2),(39,.bo j24)]) (fun j24=>[(5,.cells [.i v15.Id,.s v15.Mail.Envelope.From,.l zba.pc v15.Mail.Envelope.To,.s v15.Mail.Envelope.Id,.l zea.pc v15.Mail.Message.Fields,.l cU v15.Mail.Message.Body,.i v15.Since,.i v15.Tries,.i v15.Due,.l zia.pc v15.To]),(2,.cells [.i 0,.i 0]),(1,.cells [.l zca.pc a0.Entries,.i a0.Next])]) (fun j24 hr=>?_) (fun j24 hr=>?_)
   .refine rn tk 6 rfl<|bs 44 hr rfl (fun c25 hr=>?_) (fun c25 hr=>?_)
    .refine rn tk 8 rfl ?_;cases hr;exact jn _ rfl rfl rfl
    refine rn tk 8 rfl ?_;cases hr;exact jn _ rfl rfl rfl
   refine ac 39 hr rfl (fun c26 hr=>?_) (fun c26 hr=>?_)
   .refine rn tk 3 rfl ?_;obtain ⟨v27,h28,hr⟩:=zaa hr;refine cl (zka _ _ _ h28) rfl rfl<|rn tk 8 rfl ?_;cases hr;exact ato rfl rfl rfl rfl
   refine jb hr (fun j29=>[(1,.ptr 1 0),(2,.ptr 2 0),(4,.i s9.2),(5,.ptr 5 0),(22,.l zca.pc a0.Entries),(23,.i ((a0.Entries.length:Int))),(24,.i s9.2),(53,.bo j29)]) (fun j29=>[(5,.cells [.i v15.Id,.s v15.Mail.Envelope.From,.l zba.pc v15.Mail.Envelope.To,.s v15.Mail.Envelope.Id,.l zea.pc v15.Mail.Message.Fields,.l cU v15.Mail.Message.Body,.i v15.Since,.i v15.Tries,.i v15.Due,.l zia.pc v15.To]),(2,.cells [.i 0,.i 0]),(1,.cells [.l zca.pc a0.Entries,.i a0.Next])]) (fun j29 hr=>?_) (fun j29 hr=>?_)
   .refine rn tk 3 rfl ?_;obtain ⟨v30,h31,hr⟩:=zaa hr;refine cl (vwa _ _ h31) rfl rfl<|rn tk 2 rfl<|bs 58 hr rfl (fun c32 hr=>?_) (fun c32 hr=>?_)
    .refine rn tk 17 rfl ?_;cases hr;exact jn _ rfl rfl rfl
    refine rn tk 2 rfl ?_;obtain ⟨v33,h34,hr⟩:=zaa hr;refine ug rfl rfl rfl<|cl (vwa _ _ h34) rfl rfl<|rn tk 3 rfl<|bs 64 hr rfl (fun c35 hr=>?_) (fun c35 hr=>?_)
    .refine rn tk 11 rfl ?_;cases hr;exact jn _ rfl rfl rfl
    refine rn tk 5 rfl<|bs 69 hr rfl (fun c36 hr=>?_) (fun c36 hr=>?_)
    .refine rn tk 6 rfl ?_;cases hr;exact jn _ rfl rfl rfl
    refine rn tk 6 rfl ?_;cases hr;exact jn _ rfl rfl rfl
   refine ac 53 hr rfl (fun c37 hr=>?_) (fun c37 hr=>?_)
   .refine rn tk 3 rfl ?_;obtain ⟨v38,h39,hr⟩:=zaa hr;refine cl (zka _ _ _ h39) rfl rfl<|rn tk 8 rfl ?_;cases hr;exact ato rfl rfl rfl rfl
   refine rn tk 3 rfl ?_;obtain ⟨v40,h41,hr⟩:=zaa hr;refine cl (j8a _ _ h41) rfl rfl<|rn tk 4 rfl<|ac 76 hr rfl (fun c42 hr=>?_) (fun c42 hr=>?_)
   .refine rn tk 3 rfl ?_;obtain ⟨v43,h44,hr⟩:=zaa hr;refine cl (zka _ _ _ h44) rfl rfl<|rn tk 8 rfl ?_;cases hr;exact ato rfl rfl rfl rfl
   refine rn tk 14 rfl ?_;cases hr;exact atc rfl rfl
  refine rn tk 2 rfl ?_;cases hr;exact ato rfl rfl rfl rfl
 .refine rn tk 4 rfl ?_;obtain ⟨v45,h46,hr⟩:=zaa hr;refine cl (zWa _ h46) rfl rfl<|rn tk 4 rfl ?_;cases hr;exact kr tk (.inr rfl) rfl rfl
 refine rn tk 2 rfl ?_;cases hr;exact kr tk (.inr rfl) rfl rfl
theorem kwa(a0:List zca)(r:List zca)(hr:zZa a0=some r):RunO prog 106 [.l zca.pc a0] 97 10 (List.map zca.pc r):=by
 unfold zZa at hr;refine rfO (fn:=f106) ⟨func106,rfl,by kernel_rfl⟩ rfl fun g0 hg=>?_
 refine rn tk 3 rfl ?_;refine y0a 1002 (d:=2) 97 10 rfl rfl rfl (hO ?_);refine rn tk 6 rfl ?_;refine jNa (d:=3) (F:=zca.pc) (l:=a0) rfl rfl rfl zAa (fun c1=>hO ?_) (hO ?_)
 .replace hr:=QAa c1 hr
  refine rn tk 6 rfl ?_;refine y0a 2002 (d:=2) 97 10 rfl rfl rfl (hO ?_);refine rn tk 4 rfl ?_;cases hr;exact krO tk (.inr rfl) rfl rfl
 replace hr:=QBa hr
 refine rn tk 7 rfl<|wo (ZXa (k:=5) rfl zAa zra) rfl<|rn tk 1 rfl ?_;obtain ⟨v2,h3,hr⟩:=zaa hr;refine wo (yha (k:=7) (F:=zca.pc) (xs:=a0) (lim:=879609302220) 2002 rfl rfl rfl zAa zra rfl rfl (fun _=>rfl) rfl rfl rfl h3) rfl<|rn tk 4 rfl ?_;cases hr;exact krO tk (.inr rfl) rfl rfl
theorem kma(a0:List zia)(r:List zia)(hr:zLa a0=some r):RunO prog 107 [.l zia.pc a0] 100 4 (List.map zia.pc r):=by
 unfold zLa at hr;refine rfO (fn:=f107) ⟨func107,rfl,by kernel_rfl⟩ rfl fun g0 hg=>?_
 refine rn tk 3 rfl ?_;refine y0a 1002 (d:=2) 100 4 rfl rfl rfl (hO ?_);refine rn tk 6 rfl ?_;refine jNa (d:=3) (F:=zia.pc) (l:=a0) rfl rfl rfl zsa (fun c1=>hO ?_) (hO ?_)
 .replace hr:=QAa c1 hr
  refine rn tk 6 rfl ?_;refine y0a 2002 (d:=2) 100 4 rfl rfl rfl (hO ?_);refine rn tk 4 rfl ?_;cases hr;exact krO tk (.inr rfl) rfl rfl
 replace hr:=QBa hr
 refine rn tk 7 rfl<|wo (ZXa (k:=5) rfl zsa kIa) rfl<|rn tk 1 rfl ?_;obtain ⟨v2,h3,hr⟩:=zaa hr;refine wo (yha (k:=7) (F:=zia.pc) (xs:=a0) (lim:=3518437208883) 2002 rfl rfl rfl zsa kIa rfl rfl (fun _=>rfl) rfl rfl rfl h3) rfl<|rn tk 4 rfl ?_;cases hr;exact krO tk (.inr rfl) rfl rfl
end Go.Proofs.YtdblnmhmmfahkaaGreat
