/- Part 5 of the proof of the law SpoolReplayMatchesSpec: what it needs. -/
import Derived.Test.YtdblnmhmmfahkaaGreatKSpoolReplayMatchesSpec4
import Derived.Shelf.Small.Utf8
import Derived.Shelf.Small.Strs
import Derived.Shelf.Strings.Search1
import Derived.Shelf.Strings.Search2
import Derived.Shelf.Strings.Search3
import Derived.Shelf.Strings.Cut
import Derived.Shelf.LaysM
import Derived.Shelf.Strings.Shaped
import Derived.Shelf.Strings.Prefix
import Derived.Shelf.Strings.Runes
import Derived.Shelf.Strings.IndexAny
import Derived.Shelf.Strings.AsciiSet
import Derived.Shelf.Strings.IndexAnyAll
import Derived.Shelf.Bytes.SlSearch0
import Derived.Shelf.Bytes.SlSmallAll
import Derived.Shelf.Bytes.SlEqualAll
import Derived.Shelf.Bytes.Small
import Derived.Test.YtdblnmhmmfahkaaGreatProg
set_option linter.unusedVariables false
set_option linter.unusedSimpArgs false
set_option maxRecDepth 100000
set_option maxHeartbeats 40000000
namespace Go.Proofs.YtdblnmhmmfahkaaGreat
open Go.RowKit Go.Proofs.Tryz
def apdF(log:List UInt8)(r:zha):List UInt8 × zpa:=if 200000 < log.length then ([],⟨1, -1⟩) else if (rcdF r).Code !=0 then ([],rcdF r) else if 200000 < log.length+(spE r).length then ([],⟨1, -9⟩) else (log++spE r,⟨0,0⟩)
theorem KRa(log:List UInt8)(r:zha)(h:kva r):vfa log r=some (apdF log r):=by
 unfold vfa apdF;by_cases hb:200000 < log.length
 .rw[decide_eq_true (show (200000:Int) < (log.length:Int) by omega),if_pos hb];rfl
 rw[decide_eq_false (show ¬(200000:Int) < (log.length:Int) by omega),if_neg hb];simp only[cond_false];rw[Zea r h];simp only[jAb,kba];cases (rcdF r).Code !=0 with
 | true=>rfl
 | false=>
  simp only[cond_false,jAf,if_false];rw[jGa r h];simp only[jAb];have hl:=q3b h;have he:=Y0a r;rw[y0b _ _ (by omega)];simp only[jAb];rw[jAl];by_cases h2:200000 < log.length+(spE r).length
  .rw[decide_eq_true (show (200000:Int) < ((log.length+(spE r).length:Nat):Int) by omega),if_pos h2];rfl
  rw[decide_eq_false (show ¬(200000:Int) < ((log.length+(spE r).length:Nat):Int) by omega),if_neg h2];rfl
def repS(r:zha)(s:zra × List zfa):zpa × zra × List zfa:=
 if r.Kind==1 then ((addP s.1 r.Mail r.Now).2.2,(addP s.1 r.Mail r.Now).1,s.2) else if (yTa s.1 r.Attempt).2.Code !=0 then ((yTa s.1 r.Attempt).2,(yTa s.1 r.Attempt).1,s.2) else
 ((QQa (yTa s.1 r.Attempt).1 r.Attempt r.Results r.Now).2.2,(QQa (yTa s.1 r.Attempt).1 r.Attempt r.Results r.Now).1,s.2++(QQa (yTa s.1 r.Attempt).1 r.Attempt r.Results r.Now).2.1)
def repR:Nat->List zha->zra × List zfa->(zra × List zfa) ⊕ zpa
 | _,[],s=>.inl s
 | i,r::l,s=>if (repS r s).1.Code !=0 then .inr ⟨(repS r s).1.Code,i⟩ else repR (i+1) l (repS r s).2
theorem Y5a(i:Nat)(r:zha)(l:List zha)(s:zra × List zfa):repR i (r::l) s=if (repS r s).1.Code !=0 then .inr ⟨(repS r s).1.Code,i⟩ else repR (i+1) l (repS r s).2:=rfl
def rcdQ(i:Nat)(r:zha):Option zpa:=if (rcdF r).Code !=0 then some ⟨(rcdF r).Code,i⟩ else none
def repF(l:List zha):zra × List zfa × zpa:=if 100 < l.length then (⟨[],0⟩,[],⟨2, -1⟩) else match kda rcdQ 0 l with
 | some f=>(⟨[],0⟩,[],f)
 | none=>match repR 0 l (⟨[],0⟩,[]) with
  | .inl s=>(s.1,s.2,⟨0,0⟩)
  | .inr f=>(⟨[],0⟩,[],f)
theorem VFa:∀(l:List Int) (T:List zea),y1a T->y1a (l.foldl onK T)
 | [],T,h=>h
 | k::l,T,h=>by
  refine VFa l _ ⟨by rw[q4b];exact h.1,fun w hwm=>?_⟩;unfold onK at hwm;split at hwm
  .rename_i v hv;rcases jBn hwm with hwm | rfl
   .exact h.2 w hwm
   exact h.2 v (jAd hv)
  exact h.2 w hwm
theorem QBa(again:Bool)(id:Int):∀(l:List (Int × Int)) (s:List zfa × List zea),y1a s.2->y1a (l.foldl (resS again id) s).2
 | [],s,h=>h
 | kv::l,s,h=>by
  refine QBa again id l _ ⟨?_,fun w hwm=>?_⟩
  .show (resK again s.2 kv).length<=_;rw[WZa];exact h.1
  have hwm:w∈resK again s.2 kv:=hwm;unfold resK at hwm;split at hwm
  .rename_i v hv;rcases jBn hwm with hwm | rfl
   .exact h.2 w hwm
   exact h.2 v (jAd hv)
  exact h.2 w hwm
theorem kha:wJa ⟨[],0⟩:=fun e he=>by cases he
theorem wTa(q:zra)(a:zxa)(hw:wJa q):wJa (yTa q a).1:=by
 unfold yTa;split
 .exact kha
 split
 .exact kha
 split
 .exact kha
 show wJa ⟨YTa _ _ _,_⟩;unfold YTa;split
 .rename_i e he;intro y hy;rcases jBn hy with hy | rfl
  .exact hw y hy
  exact VFa _ _ (hw e (jAd he))
 exact hw
theorem KSa(q:zra)(a:zxa)(rs:List Int)(now:Int)(hw:wJa q):wJa (QQa q a rs now).1/\(QQa q a rs now).2.1.length<=a.To.length:=by
 unfold QQa;split
 .exact ⟨kha,by simp⟩
 split
 .exact ⟨kha,by simp⟩
 rename_i h1 h2;obtain ⟨n,e,ha,he,_⟩:=Wja (q:=q) (a:=a) (on:=true) (by simpa using h2);split
 .exact ⟨kha,by simp⟩
 split
 .exact ⟨kha,by simp⟩
 split
 .exact ⟨kha,by simp⟩
 split
 .exact ⟨kha,by simp⟩
 rw[ha];simp only[jAy,he,jBk];unfold endP;have hm:=hw e (jAd he);refine ⟨fun y hy=>?_,?_⟩
 .rcases jBn (jCv.1 hy).1 with hy | rfl
  .exact hw y hy
  exact QBa _ _ _ _ hm
 have h3:=Y4a (y9a e rs now) a.Entry (a.To.zip rs) ([],e.To);have h4:(a.To.zip rs).length<=a.To.length:=by rw[List.length_zip];omega
 show ((a.To.zip rs).foldl (resS (y9a e rs now) a.Entry) ([],e.To)).1.length<=_;simp only[jCq]at h3;omega
theorem wGb(q:zra)(m:kia)(now:Int)(hq:wAa q)(hw:wJa q)(hm:vOa m):wAa (addP q m now).1/\wJa (addP q m now).1:=by
 unfold addP;split
 .exact ⟨kca,kha⟩
 rename_i h0;split
 .exact ⟨kca,kha⟩
 split
 .exact ⟨kca,kha⟩
 split
 .exact ⟨kca,kha⟩
 obtain ⟨ok,_⟩:=KNa (q:=q) (by simpa using h0);have hn:=ok.n;obtain ⟨t1,t2⟩:=KOa hm;refine ⟨⟨by simp;omega,fun e he=>?_⟩,fun e he=>?_⟩
 .rcases jCj.1 he with he | he
  .exact hq.2 e he
  rw[jCe.1 he];exact ⟨hm,by simpa[newE]using t1⟩
 rcases jCj.1 he with he | he
 .exact hw e he
 rw[jCe.1 he];refine ⟨by simpa[newE]using t1,fun w hwm=>?_⟩;obtain ⟨r,hr,rfl⟩:=jCb.1 hwm;exact t2 r hr
def InvR(n:Nat)(s:zra × List zfa):Prop:=wAa s.1/\wJa s.1/\s.2.length<=60 * n
theorem jgb{r:zha}(h:(rcdF r).Code=0):r.Attempt.To.length<=60:=by
 rcases rcd_nf h with ⟨_,ha,_⟩ | ⟨_,_,hd⟩
 .rw[ha];simp
 unfold wAb at hd;split at hd
 .simp at hd
 split at hd
 .simp at hd
 split at hd
 .simp at hd
 rename_i h3;simp at h3;omega
theorem z9b{n:Nat}{s:zra × List zfa}{r:zha}(hi:InvR n s)(h:kva r)(hf:(rcdF r).Code=0):InvR (n+1) (repS r s).2:=by
 obtain ⟨h1,h2,h3⟩:=hi;have ht:=jgb hf;unfold repS;split
 .obtain ⟨a,b⟩:=wGb s.1 r.Mail r.Now h1 h2 h.mail;exact ⟨a,b,by show s.2.length<=_;omega⟩
 split
 .exact ⟨Z4a _ _ h1,wTa _ _ h2,by show s.2.length<=_;omega⟩
 obtain ⟨d1,d2⟩:=q8b (yTa s.1 r.Attempt).1 r.Attempt r.Results r.Now (Z4a _ _ h1) (by omega);obtain ⟨e1,e2⟩:=KSa (yTa s.1 r.Attempt).1 r.Attempt r.Results r.Now (wTa _ _ h2);exact ⟨d1,e1,by
  show (s.2++_).length<=_;rw[jAl];omega⟩
def repZ(x:(zra × List zfa) ⊕ zpa):((List zfa) × (List zba) × Int) ⊕ (zra × (List zfa) × zpa):=match x with
 | .inl s=>.inl (s.2,s.1.Entries,s.1.Next)
 | .inr f=>.inr (⟨[],0⟩,[],f)
theorem jhb(l:List zha)(hl:l.length<=100)(hs:∀r∈l,kva r/\(rcdF r).Code=0):iter (vda l) (0,([]:List zfa),[],0)=some (repZ (repR 0 l (⟨[],0⟩,[]))):=by
 refine wSa l (fun n (s:zra × List zfa)=>((n:Int),s.2,s.1.Entries,s.1.Next)) (fun n r s=>repZ (repR n r s)) (fun n r s=>InvR n s) (fun s _=>?_) (fun p x r s hp hi=>?_) (⟨[],0⟩,[]) rfl ⟨kca,kha,by simp⟩
 .unfold vda;dsimp only;rw[zCa];rfl
 have hx:l[p.length]? =some x:=by rw[hp];simp
 have hlt:=zEa hx;obtain ⟨x1,x2⟩:=hs x (jAd hx);have hto:=jgb x2;obtain ⟨i1,i2,i3⟩:=hi;have hinv:=z9b (r:=x) (n:=p.length) ⟨i1,i2,i3⟩ x1 x2;have hb:vda l ((p.length:Int),s.2,s.1.Entries,s.1.Next)=some (if (repS x s).1.Code !=0 then .out (.inr (⟨[],0⟩,[],⟨(repS x s).1.Code,p.length⟩)) else .cont (((p.length+1:Nat):Int),(repS x s).2.2,(repS x s).2.1.Entries,(repS x s).2.1.Next)):=by
  unfold vda repS;dsimp only;rw[z1a hx,zva hx];simp only[cond_true,jAb];rw[show (zra.mk s.1.Entries s.1.Next)=s.1 from rfl];cases hk:x.Kind==1 with
  | true=>
   simp only[cond_true,if_true];rw[k7b _ _ _ i1 x1.mail];simp only[jAb,kba,zQa,sc _ (show p.length < 9223372036854775807 by omega)];cases (addP s.1 x.Mail x.Now).2.2.Code !=0 <;> rfl
  | false=>
   simp only[cond_false,jAf,if_false];rw[z2b _ _ i1 i2 (by omega)];simp only[jAb,kba,zQa];cases ht:(yTa s.1 x.Attempt).2.Code !=0 with
   | true=>simp only[jBg,cond_false,jAb,ht,cond_true,if_true]
   | false=>
    simp only[jDb,cond_true,jAf,if_false];rw[z8b _ _ _ _ (Z4a _ _ i1) (wTa _ _ i2) (by omega) x1.res];simp only[jAb];have hd:=(KSa (yTa s.1 x.Attempt).1 x.Attempt x.Results x.Now (wTa _ _ i2)).2;rw[qma (by omega)];simp only[jAb,sc _ (show p.length < 9223372036854775807 by omega)];cases (QQa (yTa s.1 x.Attempt).1 x.Attempt x.Results x.Now).2.2.Code !=0 <;> rfl
 rw[hb,Y5a];cases hc:(repS x s).1.Code !=0 with
 | true=>exact .inl rfl
 | false=>exact .inr ⟨(repS x s).2,rfl,by simp,hinv⟩
theorem wHb(l:List zha)(hl:l.length<=100)(hs:∀r∈l,kva r/\(rcdF r).Code=0):iter (vLa l) (0,([]:List zfa),[],0)=some (repZ (repR 0 l (⟨[],0⟩,[]))):=by
 refine wSa l (fun n (s:zra × List zfa)=>((n:Int),s.2,s.1.Entries,s.1.Next)) (fun n r s=>repZ (repR n r s)) (fun n r s=>InvR n s) (fun s _=>?_) (fun p x r s hp hi=>?_) (⟨[],0⟩,[]) rfl ⟨kca,kha,by simp⟩
 .unfold vLa;dsimp only;rw[zCa];rfl
 have hx:l[p.length]? =some x:=by rw[hp];simp
 have hlt:=zEa hx;obtain ⟨x1,x2⟩:=hs x (jAd hx);have hto:=jgb x2;obtain ⟨i1,i2,i3⟩:=hi;have hinv:=z9b (r:=x) (n:=p.length) ⟨i1,i2,i3⟩ x1 x2;have hb:vLa l ((p.length:Int),s.2,s.1.Entries,s.1.Next)=some (if (repS x s).1.Code !=0 then .out (.inr (⟨[],0⟩,[],⟨(repS x s).1.Code,p.length⟩)) else .cont (((p.length+1:Nat):Int),(repS x s).2.2,(repS x s).2.1.Entries,(repS x s).2.1.Next)):=by
  unfold vLa repS;dsimp only;rw[z1a hx,zva hx];simp only[cond_true,jAb];rw[show (zra.mk s.1.Entries s.1.Next)=s.1 from rfl];cases hk:x.Kind==1 with
  | true=>
   simp only[cond_true,if_true];rw[q2b _ _ _ i1 x1.mail];simp only[jAb,qTa];rw[qma (by simp;omega)];simp only[jAb,sc _ (show p.length < 9223372036854775807 by omega),jCw];cases (addP s.1 x.Mail x.Now).2.2.Code !=0 <;> rfl
  | false=>
   simp only[cond_false,jAf,if_false];rw[q5b _ _ i1 i2 (by omega)];simp only[jAb,qTa];by_cases ht:(yTa s.1 x.Attempt).2.Code=0
   .have e1:((yTa s.1 x.Attempt).2.Code==0)=true:=by simp[ht]
    have e2:((yTa s.1 x.Attempt).2.Code !=0)=false:=by simp[ht]
    rw[e1,e2];simp only[cond_true,jAf,if_false];rw[Jta _ _ _ _ (Z4a _ _ i1) (wTa _ _ i2) (by omega) x1.res];simp only[jAb];have hd:=(KSa (yTa s.1 x.Attempt).1 x.Attempt x.Results x.Now (wTa _ _ i2)).2;rw[qma (by omega)];simp only[jAb,sc _ (show p.length < 9223372036854775807 by omega)];cases (QQa (yTa s.1 x.Attempt).1 x.Attempt x.Results x.Now).2.2.Code !=0 <;> rfl
   have e1:((yTa s.1 x.Attempt).2.Code==0)=false:=beq_eq_false_iff_ne.2 ht;have e2:((yTa s.1 x.Attempt).2.Code !=0)=true:=by simpa using ht
   rw[e1,e2];simp only[cond_false,jAb,e2,cond_true,if_true]
 rw[hb,Y5a];cases hc:(repS x s).1.Code !=0 with
 | true=>exact .inl rfl
 | false=>exact .inr ⟨(repS x s).2,rfl,by simp,hinv⟩
theorem jib(l:List zha)(hl:l.length<=100)(hs:∀r∈l,kva r):iter (wba l) 0=some ((kda rcdQ 0 l).elim (Sum.inl ()) fun f=>Sum.inr ((⟨[],0⟩,[],f):zra × List zfa × zpa)):=by
 refine zZa l rcdQ (Sum.inl ()) (fun f=>Sum.inr ((⟨[],0⟩,[],f):zra × List zfa × zpa)) ?_ ?_
 .unfold wba;rw[zCa];rfl
 intro i x hx;have hi:=zEa hx;unfold wba;rw[z1a hx,zva hx];simp only[cond_true,jAb];rw[Zea _ (hs x (jAd hx))];simp only[jAb,kba,zQa,sc i (by omega)];unfold rcdQ;cases (rcdF x).Code !=0 <;> rfl
theorem wIb(l:List zha)(hl:l.length<=100)(hs:∀r∈l,kva r):iter (wza l) 0=some ((kda rcdQ 0 l).elim (Sum.inl ()) fun f=>Sum.inr ((⟨[],0⟩,[],f):zra × List zfa × zpa)):=by
 refine zZa l rcdQ (Sum.inl ()) (fun f=>Sum.inr ((⟨[],0⟩,[],f):zra × List zfa × zpa)) ?_ ?_
 .unfold wza;rw[zCa];rfl
 intro i x hx;have hi:=zEa hx;unfold wza;rw[z1a hx,zva hx];simp only[cond_true,jAb];rw[Wka _ (hs x (jAd hx))];simp only[jAb,qTa,sc i (by omega)];unfold rcdQ;cases (rcdF x).Code !=0 <;> rfl
theorem Y6a{l:List zha}(h:kda rcdQ 0 l=none):∀r∈l,(rcdF r).Code=0:=by
 intro r hr;rw[vta]at h;obtain ⟨i,hi⟩:=List.mem_iff_getElem?.1 hr;have:=h i r hi;unfold rcdQ at this;split at this
 .cases this
 rename_i hc;simpa using hc
theorem KTa(l:List zha)(hs:∀r∈l,kva r):wca l=some (repF l):=by
 unfold wca repF;by_cases hl:100 < l.length
 .rw[decide_eq_true (show (100:Int) < (l.length:Int) by omega),if_pos hl];rfl
 rw[decide_eq_false (show ¬(100:Int) < (l.length:Int) by omega),if_neg hl];simp only[cond_false];rw[jib l (by omega) hs];cases hf:kda rcdQ 0 l with
 | some f=>rfl
 | none=>
  simp only[Option.elim_none,jAb,Sum.elim_inl];rw[jhb l (by omega) (fun r hr=>⟨hs r hr,Y6a hf r hr⟩)];cases repR 0 l (⟨[],0⟩,[]) <;> rfl
theorem Jua(l:List zha)(hs:∀r∈l,kva r):jCa l=some (repF l):=by
 unfold jCa repF;by_cases hl:100 < l.length
 .rw[decide_eq_true (show (100:Int) < (l.length:Int) by omega),if_pos hl];rfl
 rw[decide_eq_false (show ¬(100:Int) < (l.length:Int) by omega),if_neg hl];simp only[cond_false];rw[wIb l (by omega) hs];cases hf:kda rcdQ 0 l with
 | some f=>rfl
 | none=>
  simp only[Option.elim_none,jAb,Sum.elim_inl];rw[wHb l (by omega) (fun r hr=>⟨hs r hr,Y6a hf r hr⟩)];cases repR 0 l (⟨[],0⟩,[]) <;> rfl
theorem vPb:∀(l:List zha) (i:Nat) (s s' :zra × List zfa),(∀r∈l,kva r/\(rcdF r).Code=0)->InvR i s->repR i l s=.inl s' ->InvR (i+l.length) s'
 | [],i,s,s',_,h,hr=>by cases hr;exact h
 | r::l,i,s,s',hs,h,hr=>by
  rw[Y5a]at hr;split at hr
  .cases hr
  obtain ⟨x1,x2⟩:=hs r (by simp);have:=vPb l (i+1) _ s' (fun x hx=>hs x (by simp[hx])) (z9b h x1 x2) hr;rw[jCg]
  rwa [show i+1+l.length=i+(l.length+1) by omega]at this
theorem wJb(l:List zha)(hs:∀r∈l,kva r):wAa (repF l).1/\(repF l).2.1.length<=1048576:=by
 unfold repF;split
 .exact ⟨kca,by simp⟩
 split
 .exact ⟨kca,by simp⟩
 rename_i hf;split
 .rename_i s hr;obtain ⟨a,_,c⟩:=vPb l 0 _ s (fun r h=>⟨hs r h,Y6a hf r h⟩) ⟨kca,kha,by simp⟩ hr;exact ⟨a,by show s.2.length<=_;omega⟩
 exact ⟨kca,by simp⟩
def xM:kia:=⟨⟨[115,64,120],[⟨[97,64,121],1⟩],[55]⟩,⟨[],[]⟩⟩
def xAdd:zha:=⟨1,0,xM,⟨0,[],[]⟩,[]⟩
def xDone:zha:=⟨2,5,⟨⟨[],[],[]⟩,⟨[],[]⟩⟩,⟨0,[121],[0]⟩,[1]⟩
theorem xM_small:vOa xM:=⟨⟨by decide,by decide,by decide,fun r hr=>by simp[xM]at hr;subst hr;decide⟩,⟨by decide,fun f hf=>by simp[xM]at hf⟩,by decide⟩
theorem Wma:kva xAdd:=⟨xM_small,by decide,by decide,by decide⟩
theorem q9b:kva xDone:=⟨YYa,by decide,by decide,by decide⟩
theorem wKb:kva zRec:=⟨YYa,by decide,by decide,by decide⟩
theorem xAdd_ok:wBb xAdd:=by
 refine ⟨?_,?_,?_,fun x hx=>?_,fun x hx=>by simp[xAdd]at hx,fun x hx=>by simp[xAdd]at hx⟩
 .show ok64 1;unfold ok64;omega
 .show ok64 0;unfold ok64;omega
 .show ok64 0;unfold ok64;omega
 simp[xAdd,xM]at hx;subst hx;show ok64 1;unfold ok64;omega
theorem vQb:rcdF xAdd=⟨0,0⟩:=by rfl
theorem W1a:(spB xAdd).length=79:=by rfl
theorem x_app:apdF [] xAdd=(spE xAdd,⟨0,0⟩):=by
 have h:=Y0a xAdd;rw[W1a]at h;unfold apdF;rw[vQb,if_neg (by simp),if_neg (by simp),if_neg (by simp;omega)];rfl
theorem accP_nil:accP []=none:=rfl
theorem x_read:readF (spE xAdd)=([xAdd],((spE xAdd).length:Int),⟨0,0⟩):=by
 have h:=Y0a xAdd;rw[W1a]at h;have h1:=accP_enc Wma xAdd_ok (by rw[vQb]) (by rw[W1a];omega) [];rw[jCw]at h1;unfold readF;rw[if_neg (by omega),show (100:Nat)=99+1 from rfl,Y2a h1,List.drop_length,Y1a accP_nil];rfl
theorem x_rep:repF [xAdd,xDone]=(⟨[],1⟩,[⟨0,0,1⟩],⟨0,0⟩):=by rfl
theorem Jva:KFa=some true:=by
 unfold KFa;rw[jfb _ (by decide)];simp only[jAb];rw[show ([([97,64,121]:Str)]:List Str).map (fun s=>(⟨s,1⟩:zca))=[⟨[97,64,121],1⟩] from rfl];show ((vfa [] xAdd).bind fun v3=>(jja v3.1).bind fun v5=>(wca [xAdd,xDone]).bind fun v7=>(vfa [] zRec).bind fun v9=>_)=_;rw[KRa _ _ Wma,x_app];simp only[jAb];have h:=Y0a xAdd;rw[W1a]at h;rw[z6b _ (by omega),x_read,KTa _ (fun r hr=>by
  simp at hr;rcases hr with rfl | rfl
  .exact Wma
  exact q9b),x_rep,KRa _ _ wKb]
 simp only[jAb,qTa];rw[show apdF [] zRec=([],⟨4, -2⟩) from rfl,jaa _ (by decide),decide_eq_true (show (16:Int) < ((spE xAdd).length:Int) by omega)];simp;rfl
theorem vab{r:zha}(h:zha.bk r<=1048576):kva r:=by
 have h1:zha.bk r=1+1+kia.bk r.Mail+zxa.bk r.Attempt+bkL (fun _=>1) r.Results+1:=rfl;have h2:zxa.bk r.Attempt=1+(r.Attempt.Domain.length+1)+bkL (fun _=>1) r.Attempt.To+1:=rfl;have h3:=YGa (bk:=fun _:Int=>1) (fun x=>by simp) r.Attempt.To;have h4:=YGa (bk:=fun _:Int=>1) (fun x=>by simp) r.Results;exact ⟨wxb (by omega),by omega,by omega,by omega⟩
theorem yVa(a0:List zha)(o0:(okL zha.ok) a0)(hk:(bkL zha.bk) a0<=1048576):qaa a0=some true:=by
 have hs:∀r∈a0,kva r:=fun r hr=>by
  have:=qMb (bk:=zha.bk) hr;exact vab (by omega)
 obtain ⟨s1,s2⟩:=wJb a0 hs;unfold qaa;rw[KTa a0 hs,Jua a0 hs,Jva];simp only[jAb,cond_true,beq_self_eq_true];rw[Wia _ s1,jaa _ s2];rfl
theorem qfb(a0:List Str)(r:kia)(hr:Vha a0=some r):Run prog 28 [.l cS a0] (.agg (zN2 r)):=by
 unfold Vha at hr;refine rf (fn:=f28) ⟨func28,rfl,by kernel_rfl⟩ rfl (fun _=>rfl) fun g0 hg=>?_
 refine rn tk 10 rfl ?_;refine jqa 1003 (o:=3) (j:=1) 78 2 rfl rfl rfl rfl (hO ?_);refine rn tk 1 rfl ?_;refine jqa 2003 (o:=3) (j:=1) 78 2 rfl rfl rfl rfl (hO ?_);refine rn tk 9 rfl<|al1 hr (fun s1=>[(0,.l cS a0),(2,.ptr 2 0),(3,.ptr 3 0),(4,.i s1.1)]) (fun s1=>[(2003,.row 78 false 2 (List.map zca.pc s1.2)),(3,.cells [.s (([115,64,120]:Str)),.hs 2003 0,.s (([55]:Str)),.l zja.pc ([]),.l cU ([])]),(2,.cells [.s (([]:Str)),.l zca.pc ([]),.s (([]:Str)),.l zja.pc ([]),.l cU ([])])]) (.exit 0) (fun b2=>[(2,.ptr 2 0),(3,.ptr 3 0)]) (fun b2=>[(2003,.row 78 false 2 (List.map zca.pc b2)),(3,.cells [.s (([115,64,120]:Str)),.hs 2003 0,.s (([55]:Str)),.l zja.pc ([]),.l cU ([])]),(2,.cells [.s (([]:Str)),.l zca.pc ([]),.s (([]:Str)),.l zja.pc ([]),.l cU ([])])]) rfl rfl (fun s1 x3 hr=>?_) (fun b2 hr=>?_)
 .unfold jya at hr;refine rn tk 5 rfl<|wn tk rfl rfl rfl<|rn tk 3 rfl<|ac 10 hr rfl (fun c4 hr=>?_) (fun c4 hr=>?_)
  .refine rn tk 4 rfl ?_;obtain ⟨v5,h6,hr⟩:=zaa hr;refine dr 9 [(21,.l zca.pc (([(zca.mk v5 1)]:List zca))),(20,.agg [.s v5,.i 1]),(19,.s v5),(18,.ep [pS v5]),(17,.i s1.1),(16,.l cS a0),(15,.hs 2003 0),(14,.ptr 3 1),(13,.ptr 3 0)] mixed (by kernel_rfl) rfl rfl (pq tk rfl (.plain rfl) (pq tk rfl (.plain rfl) (pq tk rfl (.plain rfl) (pq tk rfl (.plain rfl) (pq tk rfl (.plain rfl) (.run (.plain rfl) (zua (qya (f:=cS) rfl rfl Yya kaa rfl h6)) (pq tk rfl (.plain rfl) (pq tk rfl (.plain rfl) (.run (.plain rfl) (v0a (F:=zca.pc) (l:=([(zca.mk v5 1)]:List zca)) zYa zNa rfl (fun _=>rfl) rfl rfl) .nil))))))))) rfl ?_;obtain ⟨v7,h8,hr⟩:=zaa hr;refine wa tk h8 rfl rfl rfl rfl (fun _=>rfl) rfl rfl<|rn tk 11 rfl ?_;cases hr;exact atc rfl rfl
  refine rn tk 2 rfl ?_;cases hr;exact ato rfl rfl rfl rfl
 refine rn tk 8 rfl ?_;refine ZIa (o:=2) (j:=1) (F:=zca.pc) (l:=b2) rfl rfl rfl (hC ?_);refine rn tk 1 rfl ?_;cases hr;exact kr tk (.inr rfl) rfl rfl
theorem jHa(a0:List zfa)(a1:List zfa)(r:Bool)(hr:vca a0 a1=some r):Run prog 19 [.l zfa.pc a0,.l zfa.pc a1] (.bo r):=by
 unfold vca at hr;refine rf (fn:=f19) ⟨func19,rfl,by kernel_rfl⟩ rfl (fun _=>rfl) fun g0 hg=>?_
 refine rn tk 9 rfl<|wn tk rfl rfl rfl<|rn tk 1 rfl<|wn tk rfl rfl rfl<|rn tk 3 rfl<|ac 10 hr rfl (fun c1 hr=>?_) (fun c1 hr=>?_)
 .refine rn tk 7 rfl ?_;cases hr;exact kr tk (.inr rfl) rfl rfl
 refine rn tk 9 rfl<|al2 hr (fun s2=>[(0,.l zfa.pc a0),(1,.l zfa.pc a1),(5,.i s2)]) (fun s2=>[]) (.exit 0) (fun b3=>[]) (fun b3=>[]) .ret (fun b4=>[(4,.bo b4)]) (fun b4=>[]) rfl rfl (fun s2 x6 hr=>?_) (fun b3 hr=>?_) (fun b4 hr=>?_)
 .unfold vSa at hr;refine rn tk 5 rfl<|wn tk rfl rfl rfl<|rn tk 3 rfl<|ac 14 hr rfl (fun c7 hr=>?_) (fun c7 hr=>?_)
  .refine rn tk 5 rfl ?_;obtain ⟨v8,h9,hr⟩:=zaa hr;obtain ⟨v10,h11,hr⟩:=zaa hr;refine dr 8 [(24,.agg [.i v10.Entry,.i v10.Number,.i v10.Result]),(23,.ep [pI v10.Entry,pI v10.Number,pI v10.Result]),(22,.i s2),(21,.l zfa.pc a1),(20,.agg [.i v8.Entry,.i v8.Number,.i v8.Result]),(19,.ep [pI v8.Entry,pI v8.Number,pI v8.Result]),(18,.i s2),(17,.l zfa.pc a0)] mixed (by kernel_rfl) rfl rfl (pq tk rfl (.plain rfl) (pq tk rfl (.plain rfl) (.run (.plain rfl) (zua (qya (f:=zfa.pc) rfl rfl vxa vEa rfl h9)) (pq tk rfl (.plain rfl) (pq tk rfl (.plain rfl) (pq tk rfl (.plain rfl) (.run (.plain rfl) (zua (qya (f:=zfa.pc) rfl rfl vxa vEa rfl h11)) (pq tk rfl (.plain rfl) .nil)))))))) rfl<|wq (jra rfl rfl vEa Yta (.int rfl (by decide) zVa (.int rfl (by decide) zVa (.int rfl (by decide) zVa .nil)))) rfl rfl rfl<|rn tk 2 rfl<|ac 25 hr rfl (fun c12 hr=>?_) (fun c12 hr=>?_)
   .refine rn tk 8 rfl ?_;cases hr;exact ato rfl rfl rfl rfl
   refine rn tk 8 rfl ?_;cases hr;exact atc rfl rfl
  refine rn tk 2 rfl ?_;cases hr;exact ato rfl rfl rfl rfl
 .refine rn tk 8 rfl ?_;cases hr;exact kr tk (.inr rfl) rfl rfl
 refine rn tk 2 rfl ?_;cases hr;exact kr tk (.inr rfl) rfl rfl
theorem zAa(a0:Int)(a1:Int)(r:zpa)(hr:R_At a0 a1=some r):Run prog 10 [.i a0,.i a1] (.agg [.i r.Code,.i r.Index]):=by
 unfold R_At at hr;refine rf (fn:=f10) ⟨func10,rfl,by kernel_rfl⟩ rfl (fun _=>rfl) fun g0 hg=>?_
 refine rn tk 14 rfl ?_;cases hr;exact kr tk (.inr rfl) rfl rfl
theorem zTa(a0:zpa)(r:Bool)(hr:z7a a0=some r):Run prog 24 [.agg [.i a0.Code,.i a0.Index]] (.bo r):=by
 unfold z7a at hr;refine rf (fn:=f24) ⟨func24,rfl,by kernel_rfl⟩ rfl (fun _=>rfl) fun g0 hg=>?_
 refine rn tk 15 rfl ?_;cases hr;exact kr tk (.inr rfl) rfl rfl
theorem zka(a0:Int)(a1:Int)(r:zpa)(hr:zsa a0 a1=some r):Run prog 22 [.i a0,.i a1] (.agg [.i r.Code,.i r.Index]):=by
 unfold zsa at hr;refine rf (fn:=f22) ⟨func22,rfl,by kernel_rfl⟩ rfl (fun _=>rfl) fun g0 hg=>?_
 refine rn tk 14 rfl ?_;cases hr;exact kr tk (.inr rfl) rfl rfl
theorem z4a(r:zpa)(hr:ksa=some r):Run prog 27 [] (.agg [.i r.Code,.i r.Index]):=by
 unfold ksa at hr;refine rf (fn:=f27) ⟨func27,rfl,by kernel_rfl⟩ rfl (fun _=>rfl) fun g0 hg=>?_
 refine rn tk 12 rfl ?_;cases hr;exact kr tk (.inr rfl) rfl rfl
theorem jIa(a0:List (List UInt8))(r:List UInt8)(hr:kTa a0=some r):Run prog 25 [.l (cL cU) a0] (.l cU r):=by
 unfold kTa at hr;refine rf (fn:=f25) ⟨func25,rfl,by kernel_rfl⟩ rfl (fun _=>rfl) fun g0 hg=>?_
 refine rn tk 14 rfl<|wn tk rfl rfl rfl<|rn tk 4 rfl<|al1 hr (fun s1=>[(0,.l (cL cU) a0),(3,.i s1.1),(9,.l (cL cU) a0),(10,.i ((a0.length:Int))),(11,.i s1.2)]) (fun s1=>[]) (.exit 0) (fun b2=>[(0,.l (cL cU) a0),(3,.i b2)]) (fun b2=>[]) rfl rfl (fun s1 x3 hr=>?_) (fun b2 hr=>?_)
 .unfold kza at hr;refine rn tk 6 rfl<|ac 12 hr rfl (fun c4 hr=>?_) (fun c4 hr=>?_)
  .refine rn tk 6 rfl ?_;obtain ⟨v5,h6,hr⟩:=zaa hr;refine wi tk h6 rfl rfl rfl rfl rfl<|rn tk 8 rfl<|wn tk rfl rfl rfl<|rn tk 10 rfl<|ac 20 hr rfl (fun c7 hr=>?_) (fun c7 hr=>?_)
   .refine rn tk 1 rfl ?_;cases hr
   refine rn tk 7 rfl ?_;cases hr;exact atc rfl rfl
  refine rn tk 2 rfl ?_;cases hr;exact ato rfl rfl rfl rfl
 refine rn tk 5 rfl<|il (fn:=f50) (args:=[.pv (.sl (some true) []),.i b2]) 100000 199999 [(0,.l (cL cU) a0)] rfl ⟨func50,rfl,by kernel_rfl⟩ rfl rfl rfl fun T1 ds1=>?_
 refine rn tk 12 rfl<|ac 6 hr rfl (fun c8 hr=>?_) (fun c8 hr=>?_)
 .refine rn tk 1 rfl ?_;cases hr
 refine rn tk 7 rfl<|wq (kub rfl zqa.u) rfl rfl rfl<|rn tk 1 rfl<|wq (kvb rfl zqa.u) rfl rfl rfl<|rn tk 11 rfl<|ac 16 hr rfl (fun c9 hr=>?_) (fun c9 hr=>?_)
 .refine rn tk 3 rfl<|wq (kub rfl zqa.u) rfl rfl rfl<|wq (ev_slnil rfl rfl zqa zRa) rfl rfl rfl<|rn tk 1 rfl ?_;obtain ⟨v10,h11,hr⟩:=zaa hr;refine wo (kwb (k:=22) (F:=cU) (z:=((0:UInt8):UInt8)) (lim:=140737488355328) 1022 rfl rfl rfl rfl rfl zqa zVa zRa rfl rfl rfl h11) rfl<|rn tk 1 rfl<|wq (kvb rfl zqa.u) rfl rfl rfl ?_;obtain ⟨v12,h13,hr⟩:=zaa hr;refine wo (v0b (k:=25) (F:=cU) (l:=v10) rfl rfl rfl rfl zqa zRa h13) rfl<|rn tk 10 rfl ?_;refine ie tk [.hs 1022 0] [(0,.l (cL cU) a0)] [(1022,.row 5 true 1 (List.map cU v12))] (.inr rfl) rfl rfl rfl rfl (hO ?_);refine rn tk 7 rfl<|wn tk rfl rfl rfl<|rn tk 4 rfl<|al1 hr (fun s14=>[(6,.hs 1022 0),(25,.l (cL cU) a0),(26,.i ((a0.length:Int))),(27,.i s14.1)]) (fun s14=>[(1022,.row 5 true 1 (List.map cU s14.2))]) (.exit 2) (fun b15=>[(6,.hs 1022 0)]) (fun b15=>[(1022,.row 5 true 1 (List.map cU b15))]) rfl rfl (fun s14 x16 hr=>?_) (fun b15 hr=>?_)
  .unfold kAa at hr;refine rn tk 6 rfl<|ac 28 hr rfl (fun c17 hr=>?_) (fun c17 hr=>?_)
   .refine rn tk 6 rfl ?_;obtain ⟨v18,h19,hr⟩:=zaa hr;refine wi tk h19 rfl rfl rfl rfl rfl<|rn tk 7 rfl ?_;obtain ⟨v20,h21,hr⟩:=zaa hr;refine wa tk h21 rfl rfl rfl rfl (fun _=>rfl) rfl rfl<|rn tk 8 rfl ?_;cases hr;exact atc rfl rfl
   refine rn tk 2 rfl ?_;cases hr;exact ato rfl rfl rfl rfl
  refine rn tk 8 rfl ?_;refine yua 1022 rfl (hC ?_);refine vNa (d:=2) (F:=cU) (l:=b15) rfl rfl (hC ?_);refine rn tk 1 rfl ?_;cases hr;exact kr tk (.inr rfl) rfl rfl
 refine rn tk 5 rfl ?_;refine qna 1026 (d:=26) 5 1 rfl rfl rfl (hO ?_);refine rn tk 4 rfl ?_;refine ie tk [.hs 1026 0] [(0,.l (cL cU) a0)] [(1026,.row 5 false 1 (List.map cU (([]:List UInt8))))] (.inr rfl) rfl rfl rfl rfl (hO ?_);refine rn tk 7 rfl<|wn tk rfl rfl rfl<|rn tk 4 rfl<|al1 hr (fun s22=>[(6,.hs 1026 0),(25,.l (cL cU) a0),(26,.i ((a0.length:Int))),(27,.i s22.1)]) (fun s22=>[(1026,.row 5 false 1 (List.map cU s22.2))]) (.exit 2) (fun b23=>[(6,.hs 1026 0)]) (fun b23=>[(1026,.row 5 false 1 (List.map cU b23))]) rfl rfl (fun s22 x24 hr=>?_) (fun b23 hr=>?_)
 .unfold kXa at hr;refine rn tk 6 rfl<|ac 28 hr rfl (fun c25 hr=>?_) (fun c25 hr=>?_)
  .refine rn tk 6 rfl ?_;obtain ⟨v26,h27,hr⟩:=zaa hr;refine wi tk h27 rfl rfl rfl rfl rfl<|rn tk 7 rfl ?_;obtain ⟨v28,h29,hr⟩:=zaa hr;refine wa tk h29 rfl rfl rfl rfl (fun _=>rfl) rfl rfl<|rn tk 8 rfl ?_;cases hr;exact atc rfl rfl
  refine rn tk 2 rfl ?_;cases hr;exact ato rfl rfl rfl rfl
 refine rn tk 8 rfl ?_;refine vNa (d:=2) (F:=cU) (l:=b23) rfl rfl (hC ?_);refine rn tk 1 rfl ?_;cases hr;exact kr tk (.inr rfl) rfl rfl
theorem vMa(a0:Int)(r:Bool)(hr:q3a a0=some r):Run prog 46 [.i a0] (.bo r):=by
 unfold q3a at hr;refine Zha (fn:=f46) ⟨func46,rfl,by kernel_rfl⟩ rfl (fun _=>rfl) fun g0 hg=>?_
 refine vUa ?_;refine kUa ?_;refine zJa rfl (zLa (d:=2) rfl rfl qEa) ?_;refine qwa<|kwa ?_;obtain ⟨j1,hx,hy⟩:=zaa hr;refine WQa (fun j1=>[(2,.bo j1)]) (fun j1=>[]) (fun z=>j1=z) ?_ ?_
 .have hr:=hx;clear hx hy;refine kUa ?_;refine zJa rfl (zLa (d:=3) rfl rfl k1a) ?_;refine zJa rfl (zLa (d:=4) rfl rfl (wPb rfl rfl)) ?_;refine zJa rfl (zLa (d:=5) rfl rfl k1a)<|k2a (decide ((-68719476736)<=a0)) (fun c2=>?_) (fun c2=>?_)
  .replace hr:=yza c2 hr
   refine jca (d:=5) rfl rfl rfl c2 (zLa (d:=6) rfl rfl k1a) ?_;refine jca (d:=5) rfl rfl rfl c2 (zLa (d:=7) rfl rfl (ev_leq rfl rfl)) ?_;refine zJa rfl (zLa (d:=8) rfl rfl (zza rfl c2)) ?_;refine zJa rfl (zLa (d:=2) rfl rfl qEa) ?_;refine qwa ?_;cases hr;exact jPa _ rfl (zga rfl z5a) zoa
  replace hr:=yAa c2 hr
  refine j6a (d:=5) rfl rfl rfl c2 ?_;refine j6a (d:=5) rfl rfl rfl c2 ?_;refine zJa rfl (zLa (d:=8) rfl rfl (vWa rfl c2)) ?_;refine zJa rfl (zLa (d:=2) rfl rfl qEa) ?_;refine qwa ?_;cases hr;exact jPa _ rfl (zga rfl z5a) zoa
 rintro _ rfl;have hr:=hy;clear hx hy;refine VJa ?_;cases hr;exact wTb rfl (.cons (VOa rfl) .nil) rfl
theorem Kda(a0:UInt8)(r:Bool)(hr:wNa a0=some r):Run prog 141 [.u8 a0] (.bo r):=by
 unfold wNa at hr;refine rf (fn:=f141) ⟨func141,rfl,by kernel_rfl⟩ rfl (fun _=>rfl) fun g0 hg=>?_
 refine rn tk 5 rfl<|jb hr (fun j1=>[(2,.bo j1)]) (fun j1=>[]) (fun j1 hr=>?_) (fun j1 hr=>?_)
 .refine rn tk 4 rfl<|bs 5 hr rfl (fun c2 hr=>?_) (fun c2 hr=>?_)
  .refine rn tk 4 rfl<|bs 9 hr rfl (fun c3 hr=>?_) (fun c3 hr=>?_)
   .refine rn tk 17 rfl ?_;cases hr;exact jn _ rfl rfl rfl
   refine rn tk 3 rfl<|bs 12 hr rfl (fun c4 hr=>?_) (fun c4 hr=>?_)
   .refine rn tk 5 rfl<|bs 17 hr rfl (fun c5 hr=>?_) (fun c5 hr=>?_)
    .refine rn tk 9 rfl ?_;cases hr;exact jn _ rfl rfl rfl
    refine rn tk 3 rfl<|bs 20 hr rfl (fun c6 hr=>?_) (fun c6 hr=>?_)
    .refine rn tk 6 rfl ?_;cases hr;exact jn _ rfl rfl rfl
    refine rn tk 6 rfl ?_;cases hr;exact jn _ rfl rfl rfl
   refine rn tk 8 rfl<|bs 20 hr rfl (fun c7 hr=>?_) (fun c7 hr=>?_)
   .refine rn tk 6 rfl ?_;cases hr;exact jn _ rfl rfl rfl
   refine rn tk 6 rfl ?_;cases hr;exact jn _ rfl rfl rfl
  refine rn tk 7 rfl<|bs 12 hr rfl (fun c8 hr=>?_) (fun c8 hr=>?_)
  .refine rn tk 5 rfl<|bs 17 hr rfl (fun c9 hr=>?_) (fun c9 hr=>?_)
   .refine rn tk 9 rfl ?_;cases hr;exact jn _ rfl rfl rfl
   refine rn tk 3 rfl<|bs 20 hr rfl (fun c10 hr=>?_) (fun c10 hr=>?_)
   .refine rn tk 6 rfl ?_;cases hr;exact jn _ rfl rfl rfl
   refine rn tk 6 rfl ?_;cases hr;exact jn _ rfl rfl rfl
  refine rn tk 8 rfl<|bs 20 hr rfl (fun c11 hr=>?_) (fun c11 hr=>?_)
  .refine rn tk 6 rfl ?_;cases hr;exact jn _ rfl rfl rfl
  refine rn tk 6 rfl ?_;cases hr;exact jn _ rfl rfl rfl
 refine rn tk 1 rfl ?_;cases hr;exact kr tk (.inr rfl) rfl rfl
theorem Jwa(a0:Str)(r:Bool)(hr:Zma a0=some r):Run prog 125 [.s a0] (.bo r):=by
 unfold Zma at hr;refine rf (fn:=f125) ⟨func125,rfl,by kernel_rfl⟩ rfl (fun _=>rfl) fun g0 hg=>?_
 refine rn tk 5 rfl<|jb hr (fun j1=>[(2,.bo j1)]) (fun j1=>[]) (fun j1 hr=>?_) (fun j1 hr=>?_)
 .refine rn tk 4 rfl<|bs 5 hr rfl (fun c2 hr=>?_) (fun c2 hr=>?_)
  .refine rn tk 5 rfl<|bs 10 hr rfl (fun c3 hr=>?_) (fun c3 hr=>?_)
   .refine rn tk 1 rfl<|ug rfl rfl rfl<|ct hr (fun j4=>[(10,.bo true),(12,.bo j4)]) (fun j4=>[]) (fun j4 hr jump4=>?_) (fun j4 hr=>?_)
    .refine il (fn:=f120) (args:=[.s a0,.fn (.func 140) [] []]) 400000 499999 [(10,.bo true)] rfl ⟨func120,rfl,by kernel_rfl⟩ rfl rfl rfl fun T4 ds4=>?_
     refine rn tk 14 rfl<|al2 hr (fun s5=>[(0,.s a0),(1,.fn (.func 140) [] []),(7,.i ((a0.length:Int))),(8,.i s5)]) (fun s5=>[(499999,.sus g0.w.heap.size ds4),(400010,.hold (.bo true) (T4.getD 10 undef))]) (.exit 0) (fun b6=>[]) (fun b6=>[(499999,.sus g0.w.heap.size ds4),(400010,.hold (.bo true) (T4.getD 10 undef))]) .ret (fun b7=>[(4,.bo false)]) (fun b7=>[(499999,.sus g0.w.heap.size ds4),(400010,.hold (.bo true) (T4.getD 10 undef))]) rfl rfl (fun s5 x9 hr=>?_) (fun b6 hr=>?_) (fun b7 hr=>?_)
     .unfold wZa at hr;refine rn tk 6 rfl<|ac 9 hr rfl (fun c10 hr=>?_) (fun c10 hr=>?_)
      .refine rn tk 15 rfl ?_;obtain ⟨v11,h12,hr⟩:=zaa hr;refine ws tk h12 rfl rfl rfl rfl<|il (fn:=f140) (args:=[.u8 v11]) 600000 699999 [(0,.s a0),(1,.fn (.func 140) [] []),(7,.i ((a0.length:Int))),(8,.i s5)] rfl ⟨func140,rfl,by kernel_rfl⟩ rfl rfl rfl fun T6 ds6=>?_
       refine rn tk 5 rfl<|jb hr (fun j13=>[(2,.bo j13)]) (fun j13=>[(699999,.sus g0.w.heap.size ds6),(600000,.hold (.s a0) (T6.getD 0 undef)),(600001,.hold (.fn (.func 140) [] []) (T6.getD 1 undef)),(600007,.hold (.i ((a0.length:Int))) (T6.getD 7 undef)),(600008,.hold (.i s5) (T6.getD 8 undef)),(499999,.sus g0.w.heap.size ds4),(400010,.hold (.bo true) (T4.getD 10 undef))]) (fun j13 hr=>?_) (fun j13 hr=>?_)
       .refine rn tk 2 rfl ?_;obtain ⟨v14,h15,hr⟩:=zaa hr;refine cl (Kda _ _ h15) rfl rfl<|rn tk 1 rfl<|bs 5 hr rfl (fun c16 hr=>?_) (fun c16 hr=>?_)
        .refine rn tk 13 rfl ?_;cases hr;exact jn _ rfl rfl rfl
        refine rn tk 4 rfl<|bs 9 hr rfl (fun c17 hr=>?_) (fun c17 hr=>?_)
        .refine rn tk 9 rfl ?_;cases hr;exact jn _ rfl rfl rfl
        refine rn tk 4 rfl<|bs 13 hr rfl (fun c18 hr=>?_) (fun c18 hr=>?_)
        .refine rn tk 5 rfl ?_;cases hr;exact jn _ rfl rfl rfl
        refine rn tk 5 rfl ?_;cases hr;exact jn _ rfl rfl rfl
       refine rn tk 1 rfl ?_;refine ie tk [.bo j13] [(0,.s a0),(1,.fn (.func 140) [] []),(7,.i ((a0.length:Int))),(8,.i s5)] [(499999,.sus g0.w.heap.size ds4),(400010,.hold (.bo true) (T4.getD 10 undef))] (.inr rfl) rfl rfl rfl rfl (hO ?_);refine rn tk 3 rfl<|ac 16 hr rfl (fun c19 hr=>?_) (fun c19 hr=>?_)
       .refine rn tk 8 rfl ?_;cases hr;exact ato rfl rfl rfl rfl
       refine rn tk 7 rfl ?_;cases hr;exact atc rfl rfl
      refine rn tk 2 rfl ?_;cases hr;exact ato rfl rfl rfl rfl
     .refine rn tk 8 rfl ?_;refine ie tk [.bo true] [(10,.bo true)] [] (.inr rfl) rfl rfl rfl rfl ?_;cases hr;exact jump4 _ _ rfl rfl
     refine rn tk 2 rfl ?_;refine ie tk [.bo false] [(10,.bo true)] [] (.inr rfl) rfl rfl rfl rfl ?_;cases hr;exact jump4 _ _ rfl rfl
    refine rn tk 3 rfl ?_;cases hr;exact jn _ rfl rfl rfl
   refine rn tk 5 rfl ?_;cases hr;exact jn _ rfl rfl rfl
  refine rn tk 10 rfl ?_;cases hr;exact jn _ rfl rfl rfl
 refine rn tk 1 rfl ?_;cases hr;exact kr tk (.inr rfl) rfl rfl
end Go.Proofs.YtdblnmhmmfahkaaGreat
namespace Go.Proofs
open Go.Shelf
def Tryz.lays137_ren:Go.Shelf.Ren:=⟨fun | 137=>149 | 217=>156 | 266=>163 | n=>n,fun | 9=>9 | 5=>5 | 3=>3 | n=>n,fun | n=>n⟩
theorem Tryz.cqz{α:Type}{a:Option α}{x y:α}(h:a=some x)(e:x=y):a=some y:=h.trans (congrArg some e)
theorem Tryz.lays137:Go.Proofs.Lays.n137 prog Tryz.lays137_ren:=⟨by kernel_rfl,cqz func149 (by kernel_rfl),cqz func156 (by kernel_rfl),cqz func163 (by kernel_rfl),underlying3,isAgg3,sizeOf3,zeroValue3,underlying5,isAgg5,sizeOf5,zeroValue5,underlying9,isAgg9,sizeOf9,zeroValue9⟩
open Go.RowKit in
theorem Tryz.strings_IndexByte(s:ByteArray)(c:Int)(w:World):
 Calls prog 149 #[.string s,.int .u8 c] w fun e w' =>e=.returned (.int .i64 (Lib.indexByte s.data.toList c.toNat.toUInt8))/\w' =w:=Any.strings_IndexByte Tryz.lays137 s c w
def Tryz.lays144_ren:Go.Shelf.Ren:=⟨fun | 144=>123 | 143=>139 | 219=>150 | 217=>156 | 225=>157 | 224=>158 | 267=>159 | 266=>163 | 314=>164 | n=>n,fun | 9=>9 | 4=>4 | 3=>3 | 5=>5 | 46=>189 | 146=>201 | 51=>200 | n=>n,fun | 1=>0 | n=>n⟩
theorem Tryz.lays144:Go.Proofs.Lays.n144 prog Tryz.lays144_ren:=⟨by kernel_rfl,cqz func139 (by kernel_rfl),cqz func123 (by kernel_rfl),cqz func156 (by kernel_rfl),cqz func150 (by kernel_rfl),cqz func158 (by kernel_rfl),cqz func157 (by kernel_rfl),cqz func163 (by kernel_rfl),cqz func159 (by kernel_rfl),cqz func164 (by kernel_rfl),underlying3,isAgg3,sizeOf3,zeroValue3,underlying4,isAgg4,sizeOf4,zeroValue4,underlying5,isAgg5,sizeOf5,zeroValue5,underlying9,isAgg9,sizeOf9,zeroValue9,underlying189,isAgg189,sizeOf189,zeroValue189,underlying200,isAgg200,sizeOf200,zeroValue200,underlying201,isAgg201,sizeOf201,zeroValue201,by kernel_rfl⟩
open Go.RowKit Go.Lib in
theorem Tryz.strings_Contains(s sub:ByteArray)(m:Int)(w:World)(hs:s.size < 4294967281)(hm:w.cell? ⟨0,0,none⟩=some (.int .i64 m)):
 Calls prog 123 #[.string s,.string sub] w fun e w' =>e=.returned (.bool (Lib.contains s.data.toList sub.data.toList))/\w' =w:=Any.strings_Contains Tryz.lays144 s sub m w hs hm
def Tryz.lays145_ren:Go.Shelf.Ren:=⟨fun | 145=>147 | 220=>155 | 219=>150 | 217=>156 | 225=>157 | 224=>158 | 267=>159 | 266=>163 | 314=>164 | n=>n,fun | 9=>9 | 4=>4 | 59=>186 | 3=>3 | 5=>5 | 46=>189 | 146=>201 | 51=>200 | n=>n,fun | 1=>0 | n=>n⟩
theorem Tryz.lays145:Go.Proofs.Lays.n145 prog Tryz.lays145_ren:=⟨by kernel_rfl,cqz func147 (by kernel_rfl),cqz func156 (by kernel_rfl),cqz func150 (by kernel_rfl),cqz func155 (by kernel_rfl),cqz func158 (by kernel_rfl),cqz func157 (by kernel_rfl),cqz func163 (by kernel_rfl),cqz func159 (by kernel_rfl),cqz func164 (by kernel_rfl),underlying3,isAgg3,sizeOf3,zeroValue3,underlying4,isAgg4,sizeOf4,zeroValue4,underlying5,isAgg5,sizeOf5,zeroValue5,underlying9,isAgg9,sizeOf9,zeroValue9,underlying189,isAgg189,sizeOf189,zeroValue189,underlying200,isAgg200,sizeOf200,zeroValue200,underlying186,isAgg186,sizeOf186,zeroValue186,underlying201,isAgg201,sizeOf201,zeroValue201,by kernel_rfl⟩
open Go.RowKit Go.Lib in
theorem Tryz.strings_Cut(s sep:ByteArray)(m:Int)(w:World)(hs:s.size < 4294967281)(hm:w.cell? ⟨0,0,none⟩=some (.int .i64 m)):
 Calls prog 147 #[.string s,.string sep] w fun e w' =>e=.returned (.tuple #[.string ⟨(Lib.cut s.data.toList sep.data.toList).1.toArray⟩,.string ⟨(Lib.cut s.data.toList sep.data.toList).2.1.toArray⟩,.bool (Lib.cut s.data.toList sep.data.toList).2.2])/\∃n,w' =w.drewN n:=Any.strings_Cut Tryz.lays145 s sep m w hs hm
def Tryz.lays99_ren:Go.Shelf.Ren:=⟨fun | 99=>121 | 206=>137 | n=>n,fun | 9=>9 | 4=>4 | 3=>3 | n=>n,fun | n=>n⟩
theorem Tryz.lays99:Go.Proofs.Lays.n99 prog Tryz.lays99_ren:=⟨by kernel_rfl,cqz func121 (by kernel_rfl),cqz func137 (by kernel_rfl),underlying3,isAgg3,sizeOf3,zeroValue3,underlying4,isAgg4,sizeOf4,zeroValue4,underlying9,isAgg9,sizeOf9,zeroValue9⟩
open Go.RowKit Go.Lib in
theorem Tryz.strings_HasPrefix(s p:ByteArray)(w:World):
 Calls prog 121 #[.string s,.string p] w fun e w' =>e=.returned (.bool (Lib.hasPrefix s.data.toList p.data.toList))/\w' =w:=Any.strings_HasPrefix Tryz.lays99 s p w
def Tryz.lays100_ren:Go.Shelf.Ren:=⟨fun | 100=>122 | 207=>138 | n=>n,fun | 9=>9 | 4=>4 | 3=>3 | n=>n,fun | n=>n⟩
theorem Tryz.lays100:Go.Proofs.Lays.n100 prog Tryz.lays100_ren:=⟨by kernel_rfl,cqz func122 (by kernel_rfl),cqz func138 (by kernel_rfl),underlying3,isAgg3,sizeOf3,zeroValue3,underlying4,isAgg4,sizeOf4,zeroValue4,underlying9,isAgg9,sizeOf9,zeroValue9⟩
open Go.RowKit Go.Lib in
theorem Tryz.strings_HasSuffix(s p:ByteArray)(w:World)(hs:s.size<=9223372036854775807):
 Calls prog 122 #[.string s,.string p] w fun e w' =>e=.returned (.bool (Lib.hasSuffix s.data.toList p.data.toList))/\w' =w:=Any.strings_HasSuffix Tryz.lays100 s p w hs
def Tryz.lays226_ren:Go.Shelf.Ren:=⟨fun | 226=>168 | n=>n,fun | 3=>3 | 4=>4 | n=>n,fun | n=>n⟩
theorem Tryz.lays226:Go.Proofs.Lays.n226 prog Tryz.lays226_ren:=⟨by kernel_rfl,cqz func168 (by kernel_rfl),underlying3,isAgg3,sizeOf3,zeroValue3,underlying4,isAgg4,sizeOf4,zeroValue4⟩
open Go.RowKit Go.Lib in
theorem Tryz.strings_shouldUseASCIISet(n:Int)(w:World):
 Calls prog 168 #[.int .i64 n] w fun e w' =>e=.returned (.bool (decide (8 < n)))/\w' =w:=Any.strings_shouldUseASCIISet Tryz.lays226 n w
def Tryz.lays153_ren:Go.Shelf.Ren:=⟨fun | 153=>166 | 152=>167 | 226=>168 | 227=>169 | 228=>170 | 137=>149 | 119=>171 | 224=>158 | 225=>157 | 217=>156 | 266=>163 | n=>n,fun | 9=>9 | 3=>3 | 4=>4 | 5=>5 | 21=>21 | 117=>206 | 116=>205 | 0=>0 | 46=>189 | 124=>209 | n=>n,fun | n=>n⟩
theorem Tryz.lays153:Go.Proofs.Lays.n153 prog Tryz.lays153_ren:=⟨by kernel_rfl,cqz func171 (by kernel_rfl),cqz func149 (by kernel_rfl),cqz func167 (by kernel_rfl),cqz func166 (by kernel_rfl),cqz func156 (by kernel_rfl),cqz func158 (by kernel_rfl),cqz func157 (by kernel_rfl),cqz func168 (by kernel_rfl),cqz func169 (by kernel_rfl),cqz func170 (by kernel_rfl),cqz func163 (by kernel_rfl),underlying0,isAgg0,sizeOf0,zeroValue0,underlying3,isAgg3,sizeOf3,zeroValue3,underlying4,isAgg4,sizeOf4,zeroValue4,underlying5,isAgg5,sizeOf5,zeroValue5,underlying9,isAgg9,sizeOf9,zeroValue9,underlying21,isAgg21,sizeOf21,zeroValue21,underlying189,isAgg189,sizeOf189,zeroValue189,underlying205,isAgg205,sizeOf205,underlying206,isAgg206,sizeOf206,zeroValue206,underlying209,isAgg209,sizeOf209,zeroValue209⟩
open Go.RowKit Go.Lib in
theorem Tryz.strings_IndexAny_long(hv116:∀w,(zeroValue 205).run prog w=.ok (.agg (Array.replicate 256 (.bool false))) w)(s chars:ByteArray)(w:World)(h2:2<=chars.size)(h8:8 < s.size)(hs:s.size < 4294967281)(hcs:chars.size < 4294967281)(hascii:∀(j:Nat) b,chars.data.toList[j]? =some b->b.toNat < 128):
 Calls prog 166 #[.string s,.string chars] w fun e w' =>e=.returned (.int .i64 (Lib.indexAny s.data.toList chars.data.toList))/\w' =((w.alloc (.cells (Lib.setCells chars.data.toList) 205)).alloc (.cells (Lib.setCells chars.data.toList) 205)):=Any.strings_IndexAny_long Tryz.lays153 hv116 (by kernel_rfl) s chars w h2 h8 hs hcs hascii
open Go.RowKit Go.Lib in
theorem Tryz.strings_IndexAny(hv116:∀w,(zeroValue 205).run prog w=.ok (.agg (Array.replicate 256 (.bool false))) w)(s chars:ByteArray)(w:World)(hs:s.size < 4294967281)(hcs:chars.size < 4294967281)(has:∀(j:Nat) b,s.data.toList[j]? =some b->b.toNat < 128)(hac:∀(j:Nat) b,chars.data.toList[j]? =some b->b.toNat < 128):
 Calls prog 166 #[.string s,.string chars] w fun e w' =>e=.returned (.int .i64 (Lib.indexAny s.data.toList chars.data.toList))/\Below w.heap.size w w' :=Any.strings_IndexAny Tryz.lays153 hv116 (by kernel_rfl) s chars w hs hcs has hac
def Tryz.lays150_ren:Go.Shelf.Ren:=⟨fun | 150=>165 | 153=>166 | 152=>167 | 226=>168 | 227=>169 | 228=>170 | 137=>149 | 119=>171 | 224=>158 | 225=>157 | 217=>156 | 266=>163 | n=>n,fun | 9=>9 | 4=>4 | 3=>3 | 5=>5 | 21=>21 | 117=>206 | 116=>205 | 0=>0 | 46=>189 | 124=>209 | n=>n,fun | n=>n⟩
theorem Tryz.lays150:Go.Proofs.Lays.n150 prog Tryz.lays150_ren:=⟨by kernel_rfl,cqz func171 (by kernel_rfl),cqz func149 (by kernel_rfl),cqz func165 (by kernel_rfl),cqz func167 (by kernel_rfl),cqz func166 (by kernel_rfl),cqz func156 (by kernel_rfl),cqz func158 (by kernel_rfl),cqz func157 (by kernel_rfl),cqz func168 (by kernel_rfl),cqz func169 (by kernel_rfl),cqz func170 (by kernel_rfl),cqz func163 (by kernel_rfl),underlying0,isAgg0,sizeOf0,zeroValue0,underlying3,isAgg3,sizeOf3,zeroValue3,underlying4,isAgg4,sizeOf4,zeroValue4,underlying5,isAgg5,sizeOf5,zeroValue5,underlying9,isAgg9,sizeOf9,zeroValue9,underlying21,isAgg21,sizeOf21,zeroValue21,underlying189,isAgg189,sizeOf189,zeroValue189,underlying205,isAgg205,sizeOf205,underlying206,isAgg206,sizeOf206,zeroValue206,underlying209,isAgg209,sizeOf209,zeroValue209⟩
open Go.RowKit Go.Lib in
theorem Tryz.strings_ContainsAny(hv116:∀w,(zeroValue 205).run prog w=.ok (.agg (Array.replicate 256 (.bool false))) w)(s chars:ByteArray)(w:World)(hs:s.size < 4294967281)(hcs:chars.size < 4294967281)(has:∀(j:Nat) b,s.data.toList[j]? =some b->b.toNat < 128)(hac:∀(j:Nat) b,chars.data.toList[j]? =some b->b.toNat < 128):
 Calls prog 165 #[.string s,.string chars] w fun e w' =>e=.returned (.bool (Lib.containsAny s.data.toList chars.data.toList))/\Below w.heap.size w w' :=Any.strings_ContainsAny Tryz.lays150 hv116 (by kernel_rfl) s chars w hs hcs has hac
def Tryz.lays115_ren:Go.Shelf.Ren:=⟨fun | 115=>105 | n=>n,fun | 37=>22 | 4=>4 | 9=>9 | 5=>5 | n=>n,fun | n=>n⟩
theorem Tryz.lays115:Go.Proofs.Lays.n115 prog Tryz.lays115_ren:=⟨by kernel_rfl,cqz func105 (by kernel_rfl),underlying4,isAgg4,sizeOf4,zeroValue4,underlying9,isAgg9,sizeOf9,zeroValue9,underlying22,isAgg22,sizeOf22,zeroValue22⟩
def Tryz.laysnb116_ren:Go.Shelf.Ren:=⟨fun | 116=>61 | 115=>105 | n=>n,fun | 37=>22 | 4=>4 | 3=>3 | 9=>9 | 5=>5 | n=>n,fun | n=>n⟩
theorem Tryz.laysnb116:Go.Proofs.Lays.nb116 prog Tryz.laysnb116_ren:={mixed:=by kernel_rfl,f115:=cqz func105 (by kernel_rfl),f116:=cqz func61 (by kernel_rfl),t3:=underlying3,a3:=isAgg3,z3:=sizeOf3,v3:=zeroValue3,t4:=underlying4,a4:=isAgg4,z4:=sizeOf4,v4:=zeroValue4,t9:=underlying9,a9:=isAgg9,z9:=sizeOf9,v9:=zeroValue9,t37:=underlying22,a37:=isAgg22,z37:=sizeOf22,v37:=zeroValue22,t5:=underlying5,a5:=isAgg5,z5:=sizeOf5,v5:=zeroValue5}
theorem Tryz.bytes_Equal(v1 v2:Value)(xs ys:List Int)(w:World)(h1:(convert 22 9 v1).run prog w=.ok (.string (strOfNums xs)) w)(h2:(convert 22 9 v2).run prog w=.ok (.string (strOfNums ys)) w):
 Calls prog 105 #[v1,v2] w fun e w' =>e=.returned (.bool (Lib.bytesOf xs==Lib.bytesOf ys))/\w' =w:=Any.bytes_Equal Tryz.lays115 v1 v2 xs ys w h1 h2
theorem Tryz.bytes_HasPrefix(b1 o1 n c b2 o2 m d:Nat)(xs ys:List Int)(w:World)(hx:xs.length=n)(hy:ys.length=m)(hnc:n<=c)(hc1:∀i,i < n->w.cell? ⟨b1,o1+i,none⟩=some (.int .u8 (xs.getD i 0)))(hc2:∀i,i < m->w.cell? ⟨b2,o2+i,none⟩=some (.int .u8 (ys.getD i 0))):
 Calls prog 61 #[.slice (some ⟨b1,o1,none⟩) n c,.slice (some ⟨b2,o2,none⟩) m d] w fun e w' =>e=.returned (.bool (Lib.hasPrefix (Lib.bytesOf xs) (Lib.bytesOf ys)))/\w' =w:=Any.bytes_HasPrefix Tryz.laysnb116 b1 o1 n c b2 o2 m d xs ys w hx hy hnc hc1 hc2
end Go.Proofs
namespace Go.Proofs.YtdblnmhmmfahkaaGreat
open Go.RowKit Go.Proofs.Tryz
theorem jjb(g:G)(q:Nat):Old (fun _=>False) g ⟨g.w.drewN q,g.u,g.loc⟩:=
 ⟨rfl,rfl,rfl,⟨jBb _,fun _ _=>jBb _,fun _ _ _ _=>rfl,fun _ h=>h⟩,fun _ _ _=>⟨rfl,rfl⟩⟩
theorem QRa{g:G}{s:Str}{v:Value}(h:Rel g (.s s) v):v=.string (strB s):=kka h
theorem Y7a(s t:Str)(r:Str × Str × Bool)(hr:wHa s t=some r):Run prog 147 [.s s,.s t] (.tup [.s r.1,.s r.2.1,.bo r.2.2]):=by
 unfold wHa at hr;split at hr
 case isFalse=>cases hr
 rename_i hlen;cases hr;refine ⟨⟨_,_,⟨func147,rfl,by kernel_rfl⟩⟩,fun g vs hw hg ha=>?_⟩;obtain ⟨hsz,hrel⟩:=ha;obtain ⟨l⟩:=vs
 match l,hsz with
 | [x,y],_=>
  obtain rfl:=QRa (hrel 0 _ rfl);obtain rfl:=QRa (hrel 1 _ rfl);obtain ⟨_,_,m,hm⟩:=hg.1 (0,0) (by simp[globs]);refine callsIn_wide.2 ((Tryz.strings_Cut (strB s) (strB t) m g.w (by rw[kJa];exact hlen) hm).mono ?_);rintro e w' ⟨rfl,q,rfl⟩;refine ⟨⟨g.w.drewN q,g.u,g.loc⟩,_,rfl,rfl,jjb g q,hw,rfl,.tup rfl fun i c hi=>?_⟩
  match i,hi with
  | 0,rfl=>exact .pv (.b rfl)
  | 1,rfl=>exact .pv (.b rfl)
  | 2,rfl=>exact .pv (.b rfl)
theorem wea(s:Str)(c:UInt8)(r:Int)(hr:koa s c=some r):Run prog 149 [.s s,.u8 c] (.i r):=by
 unfold koa at hr;cases hr;refine ⟨⟨_,_,⟨func149,rfl,by kernel_rfl⟩⟩,fun g vs hw hg ha=>?_⟩;obtain ⟨hsz,hrel⟩:=ha;obtain ⟨l⟩:=vs
 match l,hsz with
 | [x,y],_=>
  obtain rfl:=QRa (hrel 0 _ rfl);have e2:y=.int .u8 (c.toNat:Int):=kka (hrel 1 _ rfl);subst e2;refine callsIn_wide.2 ((Tryz.strings_IndexByte (strB s) (c.toNat:Int) g.w).mono ?_);rintro e w' ⟨rfl,rfl⟩;refine ⟨g,_,rfl,rfl,Old.refl _ g,hw,rfl,?_⟩;simp[strB];exact .pv (.b rfl)
theorem Qja(s t:Str)(r:Bool)(hr:qfa s t=some r):Run prog 123 [.s s,.s t] (.bo r):=by
 unfold qfa at hr;split at hr
 case isFalse=>cases hr
 rename_i hlen;cases hr;refine ⟨⟨_,_,⟨func123,rfl,by kernel_rfl⟩⟩,fun g vs hw hg ha=>?_⟩;obtain ⟨hsz,hrel⟩:=ha;obtain ⟨l⟩:=vs
 match l,hsz with
 | [x,y],_=>
  obtain rfl:=QRa (hrel 0 _ rfl);obtain rfl:=QRa (hrel 1 _ rfl);obtain ⟨_,_,m,hm⟩:=hg.1 (0,0) (by simp[globs]);refine callsIn_wide.2 ((Tryz.strings_Contains (strB s) (strB t) m g.w (by rw[kJa];exact hlen) hm).mono ?_);rintro e w' ⟨rfl,rfl⟩;exact ⟨g,_,rfl,rfl,Old.refl _ g,hw,rfl,.pv (.b rfl)⟩
theorem wUa(a0:Str)(a1:Str)(r:Bool)(hr:kDa a0 a1=some r):Run prog 137 [.s a0,.s a1] (.bo r):=by
 unfold kDa at hr;refine rf (fn:=Tryz.f137) ⟨func137,rfl,by kernel_rfl⟩ rfl (fun _=>rfl) fun g0 hg=>?_
 refine rn tk 5 rfl<|jb hr (fun j1=>[(4,.bo j1)]) (fun j1=>[]) (fun j1 hr=>?_) (fun j1 hr=>?_)
 .refine rn tk 7 rfl<|bs 10 hr rfl (fun c2 hr=>?_) (fun c2 hr=>?_)
  .refine rn tk 3 rfl ?_;obtain ⟨v3,h4,hr⟩:=zaa hr;refine ug rfl rfl rfl<|wscH tk h4 rfl rfl rfl rfl<|rn tk 5 rfl ?_;cases hr;exact jn _ rfl rfl rfl
  refine rn tk 9 rfl ?_;cases hr;exact jn _ rfl rfl rfl
 refine rn tk 1 rfl ?_;cases hr;exact kr tk (.inr rfl) rfl rfl
theorem KUa(a0:Str)(a1:Str)(r:Bool)(hr:k4a a0 a1=some r):Run prog 121 [.s a0,.s a1] (.bo r):=by
 unfold k4a at hr;refine rf (fn:=f121) ⟨func121,rfl,by kernel_rfl⟩ rfl (fun _=>rfl) fun g0 hg=>?_
 refine rn tk 9 rfl ?_;obtain ⟨v1,h2,hr⟩:=zaa hr;refine cl (wUa _ _ _ h2) rfl rfl<|rn tk 4 rfl ?_;cases hr;exact kr tk (.inr rfl) rfl rfl
theorem wVa(a0:Str)(a1:Str)(r:Bool)(hr:kEa a0 a1=some r):Run prog 138 [.s a0,.s a1] (.bo r):=by
 unfold kEa at hr;refine rf (fn:=f138) ⟨func138,rfl,by kernel_rfl⟩ rfl (fun _=>rfl) fun g0 hg=>?_
 refine rn tk 5 rfl<|jb hr (fun j1=>[(4,.bo j1)]) (fun j1=>[]) (fun j1 hr=>?_) (fun j1 hr=>?_)
 .refine rn tk 7 rfl<|bs 10 hr rfl (fun c2 hr=>?_) (fun c2 hr=>?_)
  .refine rn tk 6 rfl ?_;obtain ⟨v3,h4,hr⟩:=zaa hr;refine ug rfl rfl rfl<|wscL tk h4 rfl rfl rfl rfl<|rn tk 5 rfl ?_;cases hr;exact jn _ rfl rfl rfl
  refine rn tk 12 rfl ?_;cases hr;exact jn _ rfl rfl rfl
 refine rn tk 1 rfl ?_;cases hr;exact kr tk (.inr rfl) rfl rfl
theorem KVa(a0:Str)(a1:Str)(r:Bool)(hr:k5a a0 a1=some r):Run prog 122 [.s a0,.s a1] (.bo r):=by
 unfold k5a at hr;refine rf (fn:=f122) ⟨func122,rfl,by kernel_rfl⟩ rfl (fun _=>rfl) fun g0 hg=>?_
 refine rn tk 9 rfl ?_;obtain ⟨v1,h2,hr⟩:=zaa hr;refine cl (wVa _ _ _ h2) rfl rfl<|rn tk 4 rfl ?_;cases hr;exact kr tk (.inr rfl) rfl rfl
theorem jJa(a0:Str)(r:Bool)(hr:q4a a0=some r):Run prog 86 [.s a0] (.bo r):=by
 unfold q4a at hr;refine rf (fn:=f86) ⟨func86,rfl,by kernel_rfl⟩ rfl (fun _=>rfl) fun g0 hg=>?_
 refine rn tk 10 rfl<|jb hr (fun j1=>[(2,.bo j1)]) (fun j1=>[]) (fun j1 hr=>?_) (fun j1 hr=>?_)
 .refine rn tk 4 rfl<|bs 6 hr rfl (fun c2 hr=>?_) (fun c2 hr=>?_)
  .refine rn tk 5 rfl<|bs 11 hr rfl (fun c3 hr=>?_) (fun c3 hr=>?_)
   .refine rn tk 2 rfl<|ug rfl rfl rfl<|ct hr (fun j4=>[(0,.s a0),(11,.bo true),(14,.bo j4)]) (fun j4=>[]) (fun j4 hr jump4=>?_) (fun j4 hr=>?_)
    .refine il (fn:=f120) (args:=[.s a0,.fn (.func 119) [] []]) 400000 499999 [(0,.s a0),(11,.bo true)] rfl ⟨func120,rfl,by kernel_rfl⟩ rfl rfl rfl fun T4 ds4=>?_
     refine rn tk 14 rfl<|al2 hr (fun s5=>[(0,.s a0),(1,.fn (.func 119) [] []),(7,.i ((a0.length:Int))),(8,.i s5)]) (fun s5=>[(499999,.sus g0.w.heap.size ds4),(400000,.hold (.s a0) (T4.getD 0 undef)),(400011,.hold (.bo true) (T4.getD 11 undef))]) (.exit 0) (fun b6=>[]) (fun b6=>[(499999,.sus g0.w.heap.size ds4),(400000,.hold (.s a0) (T4.getD 0 undef)),(400011,.hold (.bo true) (T4.getD 11 undef))]) .ret (fun b7=>[(4,.bo false)]) (fun b7=>[(499999,.sus g0.w.heap.size ds4),(400000,.hold (.s a0) (T4.getD 0 undef)),(400011,.hold (.bo true) (T4.getD 11 undef))]) rfl rfl (fun s5 x9 hr=>?_) (fun b6 hr=>?_) (fun b7 hr=>?_)
     .unfold qIa at hr;refine rn tk 6 rfl<|ac 9 hr rfl (fun c10 hr=>?_) (fun c10 hr=>?_)
      .refine rn tk 15 rfl ?_;obtain ⟨v11,h12,hr⟩:=zaa hr;refine ws tk h12 rfl rfl rfl rfl<|il (fn:=Tryz.f119) (args:=[.u8 v11]) 600000 699999 [(0,.s a0),(1,.fn (.func 119) [] []),(7,.i ((a0.length:Int))),(8,.i s5)] rfl ⟨func119,rfl,by kernel_rfl⟩ rfl rfl rfl fun T6 ds6=>?_
       refine rn tk 5 rfl<|jb hr (fun j13=>[(2,.bo j13)]) (fun j13=>[(699999,.sus g0.w.heap.size ds6),(600000,.hold (.s a0) (T6.getD 0 undef)),(600001,.hold (.fn (.func 119) [] []) (T6.getD 1 undef)),(600007,.hold (.i ((a0.length:Int))) (T6.getD 7 undef)),(600008,.hold (.i s5) (T6.getD 8 undef)),(499999,.sus g0.w.heap.size ds4),(400000,.hold (.s a0) (T4.getD 0 undef)),(400011,.hold (.bo true) (T4.getD 11 undef))]) (fun j13 hr=>?_) (fun j13 hr=>?_)
       .refine rn tk 4 rfl<|bs 5 hr rfl (fun c14 hr=>?_) (fun c14 hr=>?_)
        .refine rn tk 4 rfl<|bs 9 hr rfl (fun c15 hr=>?_) (fun c15 hr=>?_)
         .refine rn tk 17 rfl ?_;cases hr;exact jn _ rfl rfl rfl
         refine rn tk 3 rfl<|bs 12 hr rfl (fun c16 hr=>?_) (fun c16 hr=>?_)
         .refine rn tk 5 rfl<|bs 17 hr rfl (fun c17 hr=>?_) (fun c17 hr=>?_)
          .refine rn tk 9 rfl ?_;cases hr;exact jn _ rfl rfl rfl
          refine rn tk 4 rfl<|bs 21 hr rfl (fun c18 hr=>?_) (fun c18 hr=>?_)
          .refine rn tk 5 rfl ?_;cases hr;exact jn _ rfl rfl rfl
          refine rn tk 5 rfl ?_;cases hr;exact jn _ rfl rfl rfl
         refine rn tk 9 rfl<|bs 21 hr rfl (fun c19 hr=>?_) (fun c19 hr=>?_)
         .refine rn tk 5 rfl ?_;cases hr;exact jn _ rfl rfl rfl
         refine rn tk 5 rfl ?_;cases hr;exact jn _ rfl rfl rfl
        refine rn tk 7 rfl<|bs 12 hr rfl (fun c20 hr=>?_) (fun c20 hr=>?_)
        .refine rn tk 5 rfl<|bs 17 hr rfl (fun c21 hr=>?_) (fun c21 hr=>?_)
         .refine rn tk 9 rfl ?_;cases hr;exact jn _ rfl rfl rfl
         refine rn tk 4 rfl<|bs 21 hr rfl (fun c22 hr=>?_) (fun c22 hr=>?_)
         .refine rn tk 5 rfl ?_;cases hr;exact jn _ rfl rfl rfl
         refine rn tk 5 rfl ?_;cases hr;exact jn _ rfl rfl rfl
        refine rn tk 9 rfl<|bs 21 hr rfl (fun c23 hr=>?_) (fun c23 hr=>?_)
        .refine rn tk 5 rfl ?_;cases hr;exact jn _ rfl rfl rfl
        refine rn tk 5 rfl ?_;cases hr;exact jn _ rfl rfl rfl
       refine rn tk 1 rfl ?_;refine ie tk [.bo j13] [(0,.s a0),(1,.fn (.func 119) [] []),(7,.i ((a0.length:Int))),(8,.i s5)] [(499999,.sus g0.w.heap.size ds4),(400000,.hold (.s a0) (T4.getD 0 undef)),(400011,.hold (.bo true) (T4.getD 11 undef))] (.inr rfl) rfl rfl rfl rfl (hO ?_);refine rn tk 3 rfl<|ac 16 hr rfl (fun c24 hr=>?_) (fun c24 hr=>?_)
       .refine rn tk 8 rfl ?_;cases hr;exact ato rfl rfl rfl rfl
       refine rn tk 7 rfl ?_;cases hr;exact atc rfl rfl
      refine rn tk 2 rfl ?_;cases hr;exact ato rfl rfl rfl rfl
     .refine rn tk 8 rfl ?_;refine ie tk [.bo true] [(0,.s a0),(11,.bo true)] [] (.inr rfl) rfl rfl rfl rfl ?_;cases hr;exact jump4 _ _ rfl rfl
     refine rn tk 2 rfl ?_;refine ie tk [.bo false] [(0,.s a0),(11,.bo true)] [] (.inr rfl) rfl rfl rfl rfl ?_;cases hr;exact jump4 _ _ rfl rfl
    refine rn tk 2 rfl<|bs 16 hr rfl (fun c25 hr=>?_) (fun c25 hr=>?_)
    .refine rn tk 1 rfl ?_;obtain ⟨v26,h27,hr⟩:=zaa hr;refine ug rfl rfl rfl<|cl (KUa _ _ _ h27) rfl rfl<|rn tk 3 rfl<|bs 21 hr rfl (fun c28 hr=>?_) (fun c28 hr=>?_)
     .refine rn tk 1 rfl ?_;obtain ⟨v29,h30,hr⟩:=zaa hr;refine ug rfl rfl rfl<|cl (KVa _ _ _ h30) rfl rfl<|rn tk 3 rfl<|bs 26 hr rfl (fun c31 hr=>?_) (fun c31 hr=>?_)
      .refine rn tk 1 rfl ?_;obtain ⟨v32,h33,hr⟩:=zaa hr;refine ug rfl rfl rfl<|cl (Qja _ _ _ h33) rfl rfl<|rn tk 4 rfl ?_;cases hr;exact jn _ rfl rfl rfl
      refine rn tk 6 rfl ?_;cases hr;exact jn _ rfl rfl rfl
     refine rn tk 11 rfl ?_;cases hr;exact jn _ rfl rfl rfl
    refine rn tk 16 rfl ?_;cases hr;exact jn _ rfl rfl rfl
   refine rn tk 21 rfl ?_;cases hr;exact jn _ rfl rfl rfl
  refine rn tk 26 rfl ?_;cases hr;exact jn _ rfl rfl rfl
 refine rn tk 1 rfl ?_;cases hr;exact kr tk (.inr rfl) rfl rfl
theorem j2a(a0:Str)(r:Str × Str × Bool)(hr:vFa a0=some r):Run prog 134 [.s a0] (.tup [.s r.1,.s r.2.1,.bo r.2.2]):=by
 unfold vFa at hr;refine rf (fn:=f134) ⟨func134,rfl,by kernel_rfl⟩ rfl (fun _=>rfl) fun g0 hg=>?_
 refine rn tk 10 rfl ?_;obtain ⟨v1,h2,hr⟩:=zaa hr;refine cl (Y7a _ _ _ h2) rfl rfl<|rn tk 14 rfl<|jb hr (fun j3=>[(2,.s v1.1),(3,.s v1.2.1),(4,.bo j3)]) (fun j3=>[]) (fun j3 hr=>?_) (fun j3 hr=>?_)
 .refine rn tk 5 rfl<|bs 15 hr rfl (fun c4 hr=>?_) (fun c4 hr=>?_)
  .refine rn tk 4 rfl<|bs 19 hr rfl (fun c5 hr=>?_) (fun c5 hr=>?_)
   .refine rn tk 5 rfl<|bs 24 hr rfl (fun c6 hr=>?_) (fun c6 hr=>?_)
    .refine rn tk 2 rfl<|ug rfl rfl rfl<|ct hr (fun j7=>[(3,.s v1.2.1),(12,.s v1.1),(13,.s v1.2.1),(24,.bo true),(27,.bo j7)]) (fun j7=>[]) (fun j7 hr jump4=>?_) (fun j7 hr=>?_)
     .refine il (fn:=f120) (args:=[.s v1.1,.fn (.func 148) [] []]) 400000 499999 [(3,.s v1.2.1),(12,.s v1.1),(13,.s v1.2.1),(24,.bo true)] rfl ⟨func120,rfl,by kernel_rfl⟩ rfl rfl rfl fun T4 ds4=>?_
      refine rn tk 14 rfl<|al2 hr (fun s8=>[(0,.s v1.1),(1,.fn (.func 148) [] []),(7,.i ((v1.1.length:Int))),(8,.i s8)]) (fun s8=>[(499999,.sus g0.w.heap.size ds4),(400003,.hold (.s v1.2.1) (T4.getD 3 undef)),(400012,.hold (.s v1.1) (T4.getD 12 undef)),(400013,.hold (.s v1.2.1) (T4.getD 13 undef)),(400024,.hold (.bo true) (T4.getD 24 undef))]) (.exit 0) (fun b9=>[]) (fun b9=>[(499999,.sus g0.w.heap.size ds4),(400003,.hold (.s v1.2.1) (T4.getD 3 undef)),(400012,.hold (.s v1.1) (T4.getD 12 undef)),(400013,.hold (.s v1.2.1) (T4.getD 13 undef)),(400024,.hold (.bo true) (T4.getD 24 undef))]) .ret (fun b10=>[(4,.bo false)]) (fun b10=>[(499999,.sus g0.w.heap.size ds4),(400003,.hold (.s v1.2.1) (T4.getD 3 undef)),(400012,.hold (.s v1.1) (T4.getD 12 undef)),(400013,.hold (.s v1.2.1) (T4.getD 13 undef)),(400024,.hold (.bo true) (T4.getD 24 undef))]) rfl rfl (fun s8 x12 hr=>?_) (fun b9 hr=>?_) (fun b10 hr=>?_)
      .unfold q5a at hr;refine rn tk 6 rfl<|ac 9 hr rfl (fun c13 hr=>?_) (fun c13 hr=>?_)
       .refine rn tk 15 rfl ?_;obtain ⟨v14,h15,hr⟩:=zaa hr;refine ws tk h15 rfl rfl rfl rfl<|il (fn:=f148) (args:=[.u8 v14]) 600000 699999 [(0,.s v1.1),(1,.fn (.func 148) [] []),(7,.i ((v1.1.length:Int))),(8,.i s8)] rfl ⟨func148,rfl,by kernel_rfl⟩ rfl rfl rfl fun T6 ds6=>?_
        refine rn tk 5 rfl<|jb hr (fun j16=>[(2,.bo j16)]) (fun j16=>[(699999,.sus g0.w.heap.size ds6),(600000,.hold (.s v1.1) (T6.getD 0 undef)),(600001,.hold (.fn (.func 148) [] []) (T6.getD 1 undef)),(600007,.hold (.i ((v1.1.length:Int))) (T6.getD 7 undef)),(600008,.hold (.i s8) (T6.getD 8 undef)),(499999,.sus g0.w.heap.size ds4),(400003,.hold (.s v1.2.1) (T4.getD 3 undef)),(400012,.hold (.s v1.1) (T4.getD 12 undef)),(400013,.hold (.s v1.2.1) (T4.getD 13 undef)),(400024,.hold (.bo true) (T4.getD 24 undef))]) (fun j16 hr=>?_) (fun j16 hr=>?_)
        .refine rn tk 2 rfl ?_;obtain ⟨v17,h18,hr⟩:=zaa hr;refine cl (Kda _ _ h18) rfl rfl<|rn tk 1 rfl<|bs 5 hr rfl (fun c19 hr=>?_) (fun c19 hr=>?_)
         .refine rn tk 6 rfl ?_;cases hr;exact jn _ rfl rfl rfl
         refine rn tk 1 rfl ?_;obtain ⟨v20,h21,hr⟩:=zaa hr;refine ug rfl rfl rfl<|cl (wea _ _ _ h21) rfl rfl<|rn tk 4 rfl ?_;cases hr;exact jn _ rfl rfl rfl
        refine rn tk 1 rfl ?_;refine ie tk [.bo j16] [(0,.s v1.1),(1,.fn (.func 148) [] []),(7,.i ((v1.1.length:Int))),(8,.i s8)] [(499999,.sus g0.w.heap.size ds4),(400003,.hold (.s v1.2.1) (T4.getD 3 undef)),(400012,.hold (.s v1.1) (T4.getD 12 undef)),(400013,.hold (.s v1.2.1) (T4.getD 13 undef)),(400024,.hold (.bo true) (T4.getD 24 undef))] (.inr rfl) rfl rfl rfl rfl (hO ?_);refine rn tk 3 rfl<|ac 16 hr rfl (fun c22 hr=>?_) (fun c22 hr=>?_)
        .refine rn tk 8 rfl ?_;cases hr;exact ato rfl rfl rfl rfl
        refine rn tk 7 rfl ?_;cases hr;exact atc rfl rfl
       refine rn tk 2 rfl ?_;cases hr;exact ato rfl rfl rfl rfl
      .refine rn tk 8 rfl ?_;refine ie tk [.bo true] [(3,.s v1.2.1),(12,.s v1.1),(13,.s v1.2.1),(24,.bo true)] [] (.inr rfl) rfl rfl rfl rfl ?_;cases hr;exact jump4 _ _ rfl rfl
      refine rn tk 2 rfl ?_;refine ie tk [.bo false] [(3,.s v1.2.1),(12,.s v1.1),(13,.s v1.2.1),(24,.bo true)] [] (.inr rfl) rfl rfl rfl rfl ?_;cases hr;exact jump4 _ _ rfl rfl
     refine rn tk 2 rfl<|bs 29 hr rfl (fun c23 hr=>?_) (fun c23 hr=>?_)
     .refine rn tk 1 rfl ?_;obtain ⟨v24,h25,hr⟩:=zaa hr;refine ug rfl rfl rfl<|cl (jJa _ _ h25) rfl rfl<|rn tk 5 rfl ?_;cases hr;exact jn _ rfl rfl rfl
     refine rn tk 7 rfl ?_;cases hr;exact jn _ rfl rfl rfl
    refine rn tk 12 rfl ?_;cases hr;exact jn _ rfl rfl rfl
   refine rn tk 17 rfl ?_;cases hr;exact jn _ rfl rfl rfl
  refine rn tk 21 rfl ?_;cases hr;exact jn _ rfl rfl rfl
 refine rn tk 1 rfl ?_;cases hr;exact kr tk (.inr rfl) rfl rfl
theorem jba(a0:Str)(r:Bool)(hr:qBa a0=some r):Run prog 124 [.s a0] (.bo r):=by
 unfold qBa at hr;refine rf (fn:=f124) ⟨func124,rfl,by kernel_rfl⟩ rfl (fun _=>rfl) fun g0 hg=>?_
 refine rn tk 8 rfl ?_;obtain ⟨v1,h2,hr⟩:=zaa hr;refine cl (j2a _ _ h2) rfl rfl<|rn tk 16 rfl ?_;cases hr;exact kr tk (.inr rfl) rfl rfl
theorem QSa(a0:Int)(r:Bool)(hr:v3a a0=some r):Run prog 142 [.i a0] (.bo r):=by
 unfold v3a at hr;refine rf (fn:=f142) ⟨func142,rfl,by kernel_rfl⟩ rfl (fun _=>rfl) fun g0 hg=>?_
 refine rn tk 5 rfl<|jb hr (fun j1=>[(2,.bo j1)]) (fun j1=>[]) (fun j1 hr=>?_) (fun j1 hr=>?_)
 .refine rn tk 4 rfl<|bs 5 hr rfl (fun c2 hr=>?_) (fun c2 hr=>?_)
  .refine rn tk 5 rfl ?_;cases hr;exact jn _ rfl rfl rfl
  refine rn tk 5 rfl ?_;cases hr;exact jn _ rfl rfl rfl
 refine rn tk 1 rfl ?_;cases hr;exact kr tk (.inr rfl) rfl rfl
theorem Z5a(a0:List zca)(r:zpa)(hr:qta a0=some r):Run prog 126 [.l zca.pc a0] (.agg [.i r.Code,.i r.Index]):=by
 unfold qta at hr;refine rf (fn:=f126) ⟨func126,rfl,by kernel_rfl⟩ rfl (fun _=>rfl) fun g0 hg=>?_
 refine rn tk 9 rfl<|wn tk rfl rfl rfl<|rn tk 4 rfl<|al2 hr (fun s1=>[(0,.l zca.pc a0),(2,.ptr 2 0),(5,.l zca.pc a0),(6,.i ((a0.length:Int))),(7,.i s1)]) (fun s1=>[(2,.cells [.i 0,.i 0])]) (.exit 0) (fun b2=>[(2,.ptr 2 0)]) (fun b2=>[(2,.cells [.i 0,.i 0])]) .ret (fun b3=>[(2,.ptr 2 0)]) (fun b3=>[(2,.cells [.i b3.Code,.i b3.Index])]) rfl rfl (fun s1 x5 hr=>?_) (fun b2 hr=>?_) (fun b3 hr=>?_)
 .unfold qxa at hr;refine rn tk 6 rfl<|ac 8 hr rfl (fun c6 hr=>?_) (fun c6 hr=>?_)
  .refine rn tk 7 rfl ?_;obtain ⟨v7,h8,hr⟩:=zaa hr;refine wi tk h8 rfl rfl rfl rfl rfl<|rn tk 11 rfl ?_;obtain ⟨v9,h10,hr⟩:=zaa hr;refine cl (jba _ _ h10) rfl rfl<|rn tk 4 rfl<|ac 12 hr rfl (fun c11 hr=>?_) (fun c11 hr=>?_)
   .refine rn tk 3 rfl ?_;obtain ⟨v12,h13,hr⟩:=zaa hr;refine cl (zka _ _ _ h13) rfl rfl<|rn tk 7 rfl ?_;cases hr;exact ato rfl rfl rfl rfl
   refine rn tk 4 rfl ?_;obtain ⟨v14,h15,hr⟩:=zaa hr;refine cl (QSa _ _ h15) rfl rfl<|rn tk 4 rfl<|ac 19 hr rfl (fun c16 hr=>?_) (fun c16 hr=>?_)
   .refine rn tk 3 rfl ?_;obtain ⟨v17,h18,hr⟩:=zaa hr;refine cl (zka _ _ _ h18) rfl rfl<|rn tk 7 rfl ?_;cases hr;exact ato rfl rfl rfl rfl
   refine rn tk 4 rfl ?_;obtain ⟨v19,h20,hr⟩:=zaa hr;refine wlH tk h20 rfl rfl rfl (fun _=>rfl) rfl<|rn tk 1 rfl<|il (fn:=Tryz.f143) (args:=[.l zca.pc v19,.fn (.func 144) [] [.ptr 4 0]]) 500000 599999 [(0,.l zca.pc a0),(2,.ptr 2 0),(3,.i s1),(5,.l zca.pc a0),(6,.i ((a0.length:Int))),(7,.i s1)] rfl ⟨func143,rfl,by kernel_rfl⟩ rfl rfl rfl fun T5 ds5=>?_
   refine rn tk 9 rfl<|ct hr (fun j21=>[(7,.i j21)]) (fun j21=>[(599999,.sus g0.w.heap.size ds5),(500000,.hold (.l zca.pc a0) (T5.getD 0 undef)),(500002,.hold (.ptr 2 0) (T5.getD 2 undef)),(500005,.hold (.l zca.pc a0) (T5.getD 5 undef)),(500006,.hold (.i ((a0.length:Int))) (T5.getD 6 undef)),(500007,.hold (.i s1) (T5.getD 7 undef)),(500003,.hold (.i s1) (T5.getD 3 undef)),(2,.cells [.i 0,.i 0])]) (fun j21 hr jump6=>?_) (fun j21 hr=>?_)
   .refine il (fn:=f151) (args:=[.l zca.pc v19,.fn (.func 144) [] [.ptr 4 0]]) 600000 699999 [] rfl ⟨func151,rfl,by kernel_rfl⟩ rfl rfl rfl fun T6 ds6=>?_
    refine rn tk 9 rfl<|wn tk rfl rfl rfl<|rn tk 4 rfl<|al2 hr (fun s22=>[(0,.l zca.pc v19),(1,.fn (.func 144) [] [.ptr 4 0]),(7,.i ((v19.length:Int))),(8,.i s22)]) (fun s22=>[(699999,.sus g0.w.heap.size ds6),(599999,.sus g0.w.heap.size ds5),(500000,.hold (.l zca.pc a0) (T5.getD 0 undef)),(500002,.hold (.ptr 2 0) (T5.getD 2 undef)),(500005,.hold (.l zca.pc a0) (T5.getD 5 undef)),(500006,.hold (.i ((a0.length:Int))) (T5.getD 6 undef)),(500007,.hold (.i s1) (T5.getD 7 undef)),(500003,.hold (.i s1) (T5.getD 3 undef)),(4,.cells [.s v7.Address,.i v7.Notify]),(2,.cells [.i 0,.i 0])]) (.exit 0) (fun b23=>[]) (fun b23=>[(699999,.sus g0.w.heap.size ds6),(599999,.sus g0.w.heap.size ds5),(500000,.hold (.l zca.pc a0) (T5.getD 0 undef)),(500002,.hold (.ptr 2 0) (T5.getD 2 undef)),(500005,.hold (.l zca.pc a0) (T5.getD 5 undef)),(500006,.hold (.i ((a0.length:Int))) (T5.getD 6 undef)),(500007,.hold (.i s1) (T5.getD 7 undef)),(500003,.hold (.i s1) (T5.getD 3 undef)),(2,.cells [.i 0,.i 0])]) .ret (fun b24=>[(4,.i b24)]) (fun b24=>[(699999,.sus g0.w.heap.size ds6),(599999,.sus g0.w.heap.size ds5),(500000,.hold (.l zca.pc a0) (T5.getD 0 undef)),(500002,.hold (.ptr 2 0) (T5.getD 2 undef)),(500005,.hold (.l zca.pc a0) (T5.getD 5 undef)),(500006,.hold (.i ((a0.length:Int))) (T5.getD 6 undef)),(500007,.hold (.i s1) (T5.getD 7 undef)),(500003,.hold (.i s1) (T5.getD 3 undef)),(2,.cells [.i 0,.i 0])]) rfl rfl (fun s22 x26 hr=>?_) (fun b23 hr=>?_) (fun b24 hr=>?_)
    .unfold k0a at hr;refine rn tk 6 rfl<|ac 9 hr rfl (fun c27 hr=>?_) (fun c27 hr=>?_)
     .refine rn tk 15 rfl ?_;obtain ⟨v28,h29,hr⟩:=zaa hr;refine wi tk h29 rfl rfl rfl rfl rfl<|rn tk 1 rfl<|il (fn:=Tryz.f144) (args:=[.agg [.s v28.Address,.i v28.Notify],.ptr 4 0]) 800000 899999 [(0,.l zca.pc v19),(1,.fn (.func 144) [] [.ptr 4 0]),(5,.i s22),(7,.i ((v19.length:Int))),(8,.i s22)] rfl ⟨func144,rfl,by kernel_rfl⟩ rfl rfl rfl fun T8 ds8=>?_
      refine rn tk 2 rfl<|wo (K3a (k:=2) 1002 rfl rfl rfl rfl rfl) rfl<|rn tk 14 rfl ?_;refine ie tk [.bo ((v28.Address==v7.Address))] [(0,.l zca.pc v19),(1,.fn (.func 144) [] [.ptr 4 0]),(5,.i s22),(7,.i ((v19.length:Int))),(8,.i s22)] [(1002,.cells [.s v28.Address,.i v28.Notify]),(699999,.sus g0.w.heap.size ds6),(599999,.sus g0.w.heap.size ds5),(500000,.hold (.l zca.pc a0) (T5.getD 0 undef)),(500002,.hold (.ptr 2 0) (T5.getD 2 undef)),(500005,.hold (.l zca.pc a0) (T5.getD 5 undef)),(500006,.hold (.i ((a0.length:Int))) (T5.getD 6 undef)),(500007,.hold (.i s1) (T5.getD 7 undef)),(500003,.hold (.i s1) (T5.getD 3 undef)),(4,.cells [.s v7.Address,.i v7.Notify]),(2,.cells [.i 0,.i 0])] (.inr rfl) rfl rfl rfl rfl (hO ?_);refine rn tk 2 rfl<|ac 16 hr rfl (fun c30 hr=>?_) (fun c30 hr=>?_)
      .refine rn tk 9 rfl ?_;cases hr;exact ato rfl rfl rfl rfl
      refine rn tk 7 rfl ?_;cases hr;exact atc rfl rfl
     refine rn tk 2 rfl ?_;cases hr;exact ato rfl rfl rfl rfl
    .refine rn tk 8 rfl ?_;refine ie tk [.i ((-1))] [] [(599999,.sus g0.w.heap.size ds5),(500000,.hold (.l zca.pc a0) (T5.getD 0 undef)),(500002,.hold (.ptr 2 0) (T5.getD 2 undef)),(500005,.hold (.l zca.pc a0) (T5.getD 5 undef)),(500006,.hold (.i ((a0.length:Int))) (T5.getD 6 undef)),(500007,.hold (.i s1) (T5.getD 7 undef)),(500003,.hold (.i s1) (T5.getD 3 undef)),(2,.cells [.i 0,.i 0])] (.inr rfl) rfl rfl rfl rfl ?_;cases hr;exact jump6 _ _ rfl rfl
    refine rn tk 2 rfl ?_;refine ie tk [.i b24] [] [(599999,.sus g0.w.heap.size ds5),(500000,.hold (.l zca.pc a0) (T5.getD 0 undef)),(500002,.hold (.ptr 2 0) (T5.getD 2 undef)),(500005,.hold (.l zca.pc a0) (T5.getD 5 undef)),(500006,.hold (.i ((a0.length:Int))) (T5.getD 6 undef)),(500007,.hold (.i s1) (T5.getD 7 undef)),(500003,.hold (.i s1) (T5.getD 3 undef)),(2,.cells [.i 0,.i 0])] (.inr rfl) rfl rfl rfl rfl ?_;cases hr;exact jump6 _ _ rfl rfl
   refine rn tk 5 rfl ?_;refine ie tk [.bo (decide (0<=j21))] [(0,.l zca.pc a0),(2,.ptr 2 0),(3,.i s1),(5,.l zca.pc a0),(6,.i ((a0.length:Int))),(7,.i s1)] [(2,.cells [.i 0,.i 0])] (.inr rfl) rfl rfl rfl rfl (hO ?_);refine rn tk 3 rfl<|ac 26 hr rfl (fun c31 hr=>?_) (fun c31 hr=>?_)
   .refine rn tk 3 rfl ?_;obtain ⟨v32,h33,hr⟩:=zaa hr;refine cl (zka _ _ _ h33) rfl rfl<|rn tk 7 rfl ?_;cases hr;exact ato rfl rfl rfl rfl
   refine rn tk 8 rfl ?_;cases hr;exact atc rfl rfl
  refine rn tk 2 rfl ?_;cases hr;exact ato rfl rfl rfl rfl
 .refine rn tk 4 rfl ?_;obtain ⟨v34,h35,hr⟩:=zaa hr;refine cl (z4a _ h35) rfl rfl<|rn tk 4 rfl ?_;cases hr;exact kr tk (.inr rfl) rfl rfl
 refine rn tk 2 rfl ?_;cases hr;exact kr tk (.inr rfl) rfl rfl
theorem KWa(a0:zGa)(r:zpa)(hr:q6a a0=some r):Run prog 88 [.agg (zN4 a0)] (.agg [.i r.Code,.i r.Index]):=by
 unfold q6a at hr;refine rf (fn:=f88) ⟨func88,rfl,by kernel_rfl⟩ rfl (fun _=>rfl) fun g0 hg=>?_
 refine rn tk 8 rfl<|jb hr (fun j1=>[(1,.ptr 1 0),(2,.ptr 2 0),(3,.bo j1)]) (fun j1=>[(2,.cells [.i 0,.i 0]),(1,.cells (zN4 a0))]) (fun j1 hr=>?_) (fun j1 hr=>?_)
 .refine rn tk 5 rfl<|bs 7 hr rfl (fun c2 hr=>?_) (fun c2 hr=>?_)
  .refine rn tk 2 rfl ?_;obtain ⟨v3,h4,hr⟩:=zaa hr;refine ug rfl rfl rfl<|cl (jba _ _ h4) rfl rfl<|rn tk 4 rfl ?_;cases hr;exact jn _ rfl rfl rfl
  refine rn tk 7 rfl ?_;cases hr;exact jn _ rfl rfl rfl
 refine ac 3 hr rfl (fun c5 hr=>?_) (fun c5 hr=>?_)
 .refine rn tk 2 rfl ?_;obtain ⟨v6,h7,hr⟩:=zaa hr;refine cl (zka _ _ _ h7) rfl rfl<|rn tk 6 rfl ?_;cases hr;exact kr tk (.inr rfl) rfl rfl
 refine jb hr (fun j8=>[(1,.ptr 1 0),(2,.ptr 2 0),(14,.bo j8)]) (fun j8=>[(2,.cells [.i 0,.i 0]),(1,.cells (zN4 a0))]) (fun j8 hr=>?_) (fun j8 hr=>?_)
 .refine rn tk 3 rfl<|wn tk rfl rfl rfl<|rn tk 2 rfl<|bs 19 hr rfl (fun c9 hr=>?_) (fun c9 hr=>?_)
  .refine rn tk 7 rfl ?_;cases hr;exact jn _ rfl rfl rfl
  refine rn tk 2 rfl<|ug rfl rfl rfl<|wn tk rfl rfl rfl<|rn tk 4 rfl ?_;cases hr;exact jn _ rfl rfl rfl
 refine ac 14 hr rfl (fun c10 hr=>?_) (fun c10 hr=>?_)
 .refine rn tk 2 rfl ?_;obtain ⟨v11,h12,hr⟩:=zaa hr;refine cl (zka _ _ _ h12) rfl rfl<|rn tk 6 rfl ?_;cases hr;exact kr tk (.inr rfl) rfl rfl
 refine jb hr (fun j13=>[(1,.ptr 1 0),(2,.ptr 2 0),(26,.bo j13)]) (fun j13=>[(2,.cells [.i 0,.i 0]),(1,.cells (zN4 a0))]) (fun j13 hr=>?_) (fun j13 hr=>?_)
 .refine rn tk 5 rfl<|bs 30 hr rfl (fun c14 hr=>?_) (fun c14 hr=>?_)
  .refine rn tk 2 rfl ?_;obtain ⟨v15,h16,hr⟩:=zaa hr;refine ug rfl rfl rfl<|cl (Jwa _ _ h16) rfl rfl<|rn tk 4 rfl ?_;cases hr;exact jn _ rfl rfl rfl
  refine rn tk 7 rfl ?_;cases hr;exact jn _ rfl rfl rfl
 refine ac 26 hr rfl (fun c17 hr=>?_) (fun c17 hr=>?_)
 .refine rn tk 2 rfl ?_;obtain ⟨v18,h19,hr⟩:=zaa hr;refine cl (zka _ _ _ h19) rfl rfl<|rn tk 6 rfl ?_;cases hr;exact kr tk (.inr rfl) rfl rfl
 refine rn tk 7 rfl ?_;obtain ⟨v20,h21,hr⟩:=zaa hr;refine cl (Z5a _ _ h21) rfl rfl<|rn tk 4 rfl ?_;cases hr;exact kr tk (.inr rfl) rfl rfl
theorem kab(a0:Str)(r:Bool)(hr:KBa a0=some r):Run prog 152 [.s a0] (.bo r):=by
 unfold KBa at hr;refine rf (fn:=Tryz.f152) ⟨func152,rfl,by kernel_rfl⟩ rfl (fun _=>rfl) fun g0 hg=>?_
 refine rn tk 5 rfl<|jb hr (fun j1=>[(2,.bo j1)]) (fun j1=>[]) (fun j1 hr=>?_) (fun j1 hr=>?_)
 .refine rn tk 4 rfl<|bs 5 hr rfl (fun c2 hr=>?_) (fun c2 hr=>?_)
  .refine rn tk 5 rfl<|bs 10 hr rfl (fun c3 hr=>?_) (fun c3 hr=>?_)
   .refine rn tk 1 rfl<|ug rfl rfl rfl<|ct hr (fun j4=>[(10,.bo true),(12,.bo j4)]) (fun j4=>[]) (fun j4 hr jump4=>?_) (fun j4 hr=>?_)
    .refine il (fn:=f120) (args:=[.s a0,.fn (.func 160) [] []]) 400000 499999 [(10,.bo true)] rfl ⟨func120,rfl,by kernel_rfl⟩ rfl rfl rfl fun T4 ds4=>?_
     refine rn tk 14 rfl<|al2 hr (fun s5=>[(0,.s a0),(1,.fn (.func 160) [] []),(7,.i ((a0.length:Int))),(8,.i s5)]) (fun s5=>[(499999,.sus g0.w.heap.size ds4),(400010,.hold (.bo true) (T4.getD 10 undef))]) (.exit 0) (fun b6=>[]) (fun b6=>[(499999,.sus g0.w.heap.size ds4),(400010,.hold (.bo true) (T4.getD 10 undef))]) .ret (fun b7=>[(4,.bo false)]) (fun b7=>[(499999,.sus g0.w.heap.size ds4),(400010,.hold (.bo true) (T4.getD 10 undef))]) rfl rfl (fun s5 x9 hr=>?_) (fun b6 hr=>?_) (fun b7 hr=>?_)
     .unfold yKa at hr;refine rn tk 6 rfl<|ac 9 hr rfl (fun c10 hr=>?_) (fun c10 hr=>?_)
      .refine rn tk 15 rfl ?_;obtain ⟨v11,h12,hr⟩:=zaa hr;refine ws tk h12 rfl rfl rfl rfl<|il (fn:=f160) (args:=[.u8 v11]) 600000 699999 [(0,.s a0),(1,.fn (.func 160) [] []),(7,.i ((a0.length:Int))),(8,.i s5)] rfl ⟨func160,rfl,by kernel_rfl⟩ rfl rfl rfl fun T6 ds6=>?_
       refine rn tk 5 rfl<|jb hr (fun j13=>[(2,.bo j13)]) (fun j13=>[(699999,.sus g0.w.heap.size ds6),(600000,.hold (.s a0) (T6.getD 0 undef)),(600001,.hold (.fn (.func 160) [] []) (T6.getD 1 undef)),(600007,.hold (.i ((a0.length:Int))) (T6.getD 7 undef)),(600008,.hold (.i s5) (T6.getD 8 undef)),(499999,.sus g0.w.heap.size ds4),(400010,.hold (.bo true) (T4.getD 10 undef))]) (fun j13 hr=>?_) (fun j13 hr=>?_)
       .refine rn tk 4 rfl<|bs 5 hr rfl (fun c14 hr=>?_) (fun c14 hr=>?_)
        .refine rn tk 4 rfl<|bs 9 hr rfl (fun c15 hr=>?_) (fun c15 hr=>?_)
         .refine rn tk 5 rfl ?_;cases hr;exact jn _ rfl rfl rfl
         refine rn tk 5 rfl ?_;cases hr;exact jn _ rfl rfl rfl
        refine rn tk 9 rfl ?_;cases hr;exact jn _ rfl rfl rfl
       refine rn tk 1 rfl ?_;refine ie tk [.bo j13] [(0,.s a0),(1,.fn (.func 160) [] []),(7,.i ((a0.length:Int))),(8,.i s5)] [(499999,.sus g0.w.heap.size ds4),(400010,.hold (.bo true) (T4.getD 10 undef))] (.inr rfl) rfl rfl rfl rfl (hO ?_);refine rn tk 3 rfl<|ac 16 hr rfl (fun c16 hr=>?_) (fun c16 hr=>?_)
       .refine rn tk 8 rfl ?_;cases hr;exact ato rfl rfl rfl rfl
       refine rn tk 7 rfl ?_;cases hr;exact atc rfl rfl
      refine rn tk 2 rfl ?_;cases hr;exact ato rfl rfl rfl rfl
     .refine rn tk 8 rfl ?_;refine ie tk [.bo true] [(10,.bo true)] [] (.inr rfl) rfl rfl rfl rfl ?_;cases hr;exact jump4 _ _ rfl rfl
     refine rn tk 2 rfl ?_;refine ie tk [.bo false] [(10,.bo true)] [] (.inr rfl) rfl rfl rfl rfl ?_;cases hr;exact jump4 _ _ rfl rfl
    refine rn tk 3 rfl ?_;cases hr;exact jn _ rfl rfl rfl
   refine rn tk 5 rfl ?_;cases hr;exact jn _ rfl rfl rfl
  refine rn tk 10 rfl ?_;cases hr;exact jn _ rfl rfl rfl
 refine rn tk 1 rfl ?_;cases hr;exact kr tk (.inr rfl) rfl rfl
theorem yga(a0:UInt8)(r:Bool)(hr:v4a a0=some r):Run prog 162 [.u8 a0] (.bo r):=by
 unfold v4a at hr;refine rf (fn:=f162) ⟨func162,rfl,by kernel_rfl⟩ rfl (fun _=>rfl) fun g0 hg=>?_
 refine rn tk 5 rfl<|jb hr (fun j1=>[(2,.bo j1)]) (fun j1=>[]) (fun j1 hr=>?_) (fun j1 hr=>?_)
 .refine rn tk 4 rfl<|bs 5 hr rfl (fun c2 hr=>?_) (fun c2 hr=>?_)
  .refine rn tk 5 rfl ?_;cases hr;exact jn _ rfl rfl rfl
  refine rn tk 5 rfl ?_;cases hr;exact jn _ rfl rfl rfl
 refine rn tk 1 rfl ?_;cases hr;exact kr tk (.inr rfl) rfl rfl
theorem Jxa(a0:Str)(a1:Int)(r:Int)(hr:Zpa a0 a1=some r):Run prog 154 [.s a0,.i a1] (.i r):=by
 unfold Zpa at hr;refine rf (fn:=f154) ⟨func154,rfl,by kernel_rfl⟩ rfl (fun _=>rfl) fun g0 hg=>?_
 refine rn tk 14 rfl<|wq (ev_max rfl rfl) rfl rfl rfl<|rn tk 4 rfl<|al1 hr (fun s1=>[(0,.s a0),(5,.i s1.1),(6,.i s1.2)]) (fun s1=>[]) (.exit 0) (fun b2=>[(5,.i b2)]) (fun b2=>[]) rfl rfl (fun s1 x3 hr=>?_) (fun b2 hr=>?_)
 .unfold jda at hr;refine rn tk 9 rfl<|ac 12 hr rfl (fun c4 hr=>?_) (fun c4 hr=>?_)
  .refine rn tk 2 rfl<|jk (fun j5=>[(0,.s a0),(5,.i j5),(6,.i s1.2)]) (fun j5=>[]) (fun j5=>vja s1 j5=some x3) ?_ ?_
   .refine rn tk 2 rfl<|jb hr (fun j6=>[(0,.s a0),(5,.i s1.1),(6,.i s1.2),(26,.bo j6)]) (fun j6=>[]) (fun j6 hr=>?_) (fun j6 hr=>?_)
    .refine rn tk 3 rfl ?_;obtain ⟨v7,h8,hr⟩:=zaa hr;refine ws tk h8 rfl rfl rfl rfl ?_;obtain ⟨v9,h10,hr⟩:=zaa hr;refine cl (yga _ _ h10) rfl rfl<|rn tk 2 rfl<|bs 20 hr rfl (fun c11 hr=>?_) (fun c11 hr=>?_)
     .refine rn tk 7 rfl ?_;cases hr;exact jn _ rfl rfl rfl
     refine rn tk 3 rfl ?_;obtain ⟨v12,h13,hr⟩:=zaa hr;refine ug rfl rfl rfl<|ws tk h13 rfl rfl rfl rfl ?_;obtain ⟨v14,h15,hr⟩:=zaa hr;refine ug rfl rfl rfl<|cl (yga _ _ h15) rfl rfl<|rn tk 2 rfl ?_;cases hr;exact jn _ rfl rfl rfl
    refine ac 26 hr rfl (fun c16 hr=>?_) (fun c16 hr=>?_)
    .refine rn tk 3 rfl<|jn s1.1 hr rfl rfl
    refine rn tk 3 rfl<|jb hr (fun j17=>[(0,.s a0),(5,.i s1.1),(6,.i s1.2),(32,.bo j17)]) (fun j17=>[]) (fun j17 hr=>?_) (fun j17 hr=>?_)
    .refine rn tk 4 rfl<|bs 29 hr rfl (fun c18 hr=>?_) (fun c18 hr=>?_)
     .refine rn tk 4 rfl ?_;cases hr;exact jn _ rfl rfl rfl
     refine rn tk 4 rfl ?_;cases hr;exact jn _ rfl rfl rfl
    refine ac 32 hr rfl (fun c19 hr=>?_) (fun c19 hr=>?_)
    .refine rn tk 4 rfl ?_;cases hr;exact ato rfl rfl rfl rfl
    refine rn tk 7 rfl<|jn s1.2 hr rfl rfl
   intro j5 hr;unfold vja at hr;refine rn tk 5 rfl ?_;cases hr;exact atc rfl rfl
  refine rn tk 2 rfl ?_;cases hr;exact ato rfl rfl rfl rfl
 refine rn tk 9 rfl ?_;cases hr;exact kr tk (.inr rfl) rfl rfl
theorem jOa(a0:Int)(r:Bool)(hr:kZa a0=some r):Run prog 171 [.pv (.b (.int .i32 a0))] (.bo r):=by
 unfold kZa at hr;refine rf (fn:=f171) ⟨func171,rfl,by kernel_rfl⟩ rfl (fun _=>rfl) fun g0 hg=>?_
 refine rn tk 7 rfl<|jb hr (fun j1=>[(0,.pv (.b (.int .i32 a0))),(3,.bo j1)]) (fun j1=>[]) (fun j1 hr=>?_) (fun j1 hr=>?_)
 .refine rn tk 4 rfl<|bs 6 hr rfl (fun c2 hr=>?_) (fun c2 hr=>?_)
  .refine rn tk 5 rfl ?_;cases hr;exact jn _ rfl rfl rfl
  refine rn tk 5 rfl ?_;cases hr;exact jn _ rfl rfl rfl
 refine ac 3 hr rfl (fun c3 hr=>?_) (fun c3 hr=>?_)
 .refine rn tk 8 rfl ?_;cases hr;exact kr tk (.inr rfl) rfl rfl
 refine jb hr (fun j4=>[(10,.bo j4)]) (fun j4=>[]) (fun j4 hr=>?_) (fun j4 hr=>?_)
 .refine rn tk 4 rfl<|bs 13 hr rfl (fun c5 hr=>?_) (fun c5 hr=>?_)
  .refine rn tk 5 rfl ?_;cases hr;exact jn _ rfl rfl rfl
  refine rn tk 5 rfl ?_;cases hr;exact jn _ rfl rfl rfl
 refine ac 10 hr rfl (fun c6 hr=>?_) (fun c6 hr=>?_)
 .refine rn tk 8 rfl ?_;cases hr;exact kr tk (.inr rfl) rfl rfl
 refine rn tk 9 rfl ?_;cases hr;exact kr tk (.inr rfl) rfl rfl
theorem yWa(a0:Str)(a1:Int)(r:Int)(hr:kOa a0 a1=some r):Run prog 167 [.s a0,.pv (.b (.int .i32 a1))] (.i r):=by
 unfold kOa at hr;refine rf (fn:=f167) ⟨func167,rfl,by kernel_rfl⟩ rfl (fun _=>rfl) fun g0 hg=>?_
 refine rn tk 6 rfl<|jb hr (fun j1=>[(0,.s a0),(1,.pv (.b (.int .i32 a1))),(160,.bo j1)]) (fun j1=>[]) (fun j1 hr=>?_) (fun j1 hr=>?_)
 .refine rn tk 4 rfl<|bs 163 hr rfl (fun c2 hr=>?_) (fun c2 hr=>?_)
  .refine rn tk 5 rfl ?_;cases hr;exact jn _ rfl rfl rfl
  refine rn tk 5 rfl ?_;cases hr;exact jn _ rfl rfl rfl
 refine ac 160 hr rfl (fun c3 hr=>?_) (fun c3 hr=>?_)
 .refine rn tk 5 rfl ?_;obtain ⟨v4,h5,hr⟩:=zaa hr;refine cl (wea _ _ _ h5) rfl rfl<|rn tk 5 rfl ?_;cases hr;exact kr tk (.inr rfl) rfl rfl
 refine rn tk 7 rfl<|ac 171 hr rfl (fun c6 hr=>?_) (fun c6 hr=>?_)
 .refine rn tk 4 rfl<|wr 1175 tk rfl rfl rfl rfl<|rn tk 3 rfl<|al2 hr (fun s7=>[(175,.ptr 1175 0)]) (fun s7=>[(1175,.it (strB a0) s7)]) (.exit 9) (fun b8=>[]) (fun b8=>[]) .ret (fun b9=>[(4,.i b9)]) (fun b9=>[]) rfl rfl (fun s7 x11 hr=>?_) (fun b8 hr=>?_) (fun b9 hr=>?_)
  .unfold qWa at hr;refine rn tk 2 rfl<|wnx hr rfl rfl rfl (fun c12 hr=>?_) (fun c12 hr=>?_)
   .refine rn tk 22 rfl<|ac 181 hr rfl (fun c13 hr=>?_) (fun c13 hr=>?_)
    .refine rn tk 8 rfl ?_;cases hr;exact ato rfl rfl rfl rfl
    refine rn tk 2 rfl ?_;cases hr;exact atc rfl rfl
   refine rn tk 7 rfl ?_;cases hr;exact ato rfl rfl rfl rfl
  .refine rn tk 9 rfl ?_;cases hr;exact kr tk (.inr rfl) rfl rfl
  refine rn tk 3 rfl ?_;cases hr;exact kr tk (.inr rfl) rfl rfl
 refine rn tk 3 rfl ?_;obtain ⟨v14,h15,hr⟩:=zaa hr;refine cl (jOa _ _ h15) rfl rfl<|rn tk 4 rfl<|ac 183 hr rfl (fun c16 hr=>?_) (fun c16 hr=>?_)
 .refine rn tk 7 rfl ?_;cases hr;exact kr tk (.inr rfl) rfl rfl
 refine rn tk 29 rfl<|al2 hr (fun s17=>[(0,.s a0),(7,.s ((yDa a1))),(8,.i ((w64 ((((yDa a1)).length:Int) - 1)))),(9,.i s17)]) (fun s17=>[]) (.exit 1) (fun b18=>[]) (fun b18=>[]) .ret (fun b19=>[(4,.i b19)]) (fun b19=>[]) rfl rfl (fun s17 x21 hr=>?_) (fun b18 hr=>?_) (fun b19 hr=>?_)
 .unfold qYa at hr;refine rn tk 9 rfl<|ac 26 hr rfl (fun c22 hr=>?_) (fun c22 hr=>?_)
  .refine rn tk 4 rfl<|jk (fun j23=>[(0,.s a0),(7,.s ((yDa a1))),(8,.i j23.1),(9,.i j23.2)]) (fun j23=>[]) (fun j23=>qXa a0 a1 j23=some x21) ?_ ?_
   .refine rn tk 1 rfl ?_;obtain ⟨v24,h25,hr⟩:=zaa hr;obtain ⟨v26,h27,hr⟩:=zaa hr;refine dr 6 [(32,.u8 v26),(31,.i ((w64 ((((yDa a1)).length:Int) - 1)))),(30,.s ((yDa a1))),(29,.u8 v24),(28,.i s17),(27,.s a0)] mixed (by kernel_rfl) rfl rfl (pq tk rfl (.plain rfl) (pq tk rfl (.plain rfl) (.run (.plain rfl) (zua (VPa rfl rfl kaa h25)) (pq tk rfl (.plain rfl) (pq tk rfl (.plain rfl) (.run (.plain rfl) (zua (VPa rfl rfl kaa h27)) .nil)))))) rfl<|rn tk 3 rfl<|ac 33 hr rfl (fun c28 hr=>?_) (fun c28 hr=>?_)
    .refine rn tk 1 rfl ?_;obtain ⟨v29,h30,hr⟩:=zaa hr;obtain ⟨v31,h32,hr⟩:=zaa hr;refine dr 7 [(40,.u8 v31),(39,.i ((w64 ((((yDa a1)).length:Int) - 1)))),(38,.s ((yDa a1))),(37,.s v29),(36,.i ((w64 (s17+1)))),(35,.i s17),(34,.s a0)] mixed (by kernel_rfl) rfl rfl (pq tk rfl (.plain rfl) (pq tk rfl (.plain rfl) (pq tk rfl (.plain rfl) (.run (.plain rfl) (zua (vib rfl rfl kaa h30)) (pq tk rfl (.plain rfl) (pq tk rfl (.plain rfl) (.run (.plain rfl) (zua (VPa rfl rfl kaa h32)) .nil))))))) rfl ?_;obtain ⟨v33,h34,hr⟩:=zaa hr;refine cl (wea _ _ _ h34) rfl rfl<|rn tk 10 rfl<|ac 43 hr rfl (fun c35 hr=>?_) (fun c35 hr=>?_)
     .refine rn tk 10 rfl ?_;cases hr;exact ato rfl rfl rfl rfl
     refine rn tk 9 rfl<|jn (((w64 ((((yDa a1)).length:Int) - 1)),(w64 (s17+(w64 (v33+1)))))) hr rfl rfl
    refine rn tk 1 rfl<|jn (((w64 ((((yDa a1)).length:Int) - 1)),s17)) hr rfl rfl
   intro j23 hr;unfold qXa at hr;refine rn tk 7 rfl<|al1 hr (fun s36=>[(0,.s a0),(7,.s ((yDa a1))),(8,.i j23.1),(9,.i j23.2),(12,.i s36)]) (fun s36=>[]) (.exit 3) (fun b37=>[(8,.i j23.1),(9,.i j23.2)]) (fun b37=>[]) rfl rfl (fun s36 x38 hr=>?_) (fun b37 hr=>?_)
   .unfold y6a at hr;refine rn tk 9 rfl<|ac 51 hr rfl (fun c39 hr=>?_) (fun c39 hr=>?_)
    .refine rn tk 5 rfl ?_;obtain ⟨v40,h41,hr⟩:=zaa hr;obtain ⟨v42,h43,hr⟩:=zaa hr;refine dr 10 [(63,.u8 v42),(62,.i ((w64 (j23.1 - s36)))),(61,.i s36),(60,.i j23.1),(59,.s ((yDa a1))),(58,.u8 v40),(57,.i ((w64 (j23.2 - s36)))),(56,.i s36),(55,.i j23.2),(54,.s a0)] mixed (by kernel_rfl) rfl rfl (pq tk rfl (.plain rfl) (pq tk rfl (.plain rfl) (pq tk rfl (.plain rfl) (pq tk rfl (.plain rfl) (.run (.plain rfl) (zua (VPa rfl rfl kaa h41)) (pq tk rfl (.plain rfl) (pq tk rfl (.plain rfl) (pq tk rfl (.plain rfl) (pq tk rfl (.plain rfl) (.run (.plain rfl) (zua (VPa rfl rfl kaa h43)) .nil)))))))))) rfl<|rn tk 3 rfl<|ac 64 hr rfl (fun c44 hr=>?_) (fun c44 hr=>?_)
     .cases hr
     refine rn tk 8 rfl ?_;cases hr;exact atc rfl rfl
    refine rn tk 2 rfl ?_;cases hr;exact ato rfl rfl rfl rfl
   refine rn tk 15 rfl ?_;cases hr;exact ato rfl rfl rfl rfl
  refine rn tk 2 rfl ?_;cases hr;exact ato rfl rfl rfl rfl
 .refine rn tk 12 rfl ?_;cases hr;exact kr tk (.inr rfl) rfl rfl
 refine rn tk 4 rfl ?_;cases hr;exact kr tk (.inr rfl) rfl rfl
theorem y2a(a0:Int)(r:Bool)(hr:kea a0=some r):Run prog 168 [.i a0] (.bo r):=by
 unfold kea at hr;refine rf (fn:=f168) ⟨func168,rfl,by kernel_rfl⟩ rfl (fun _=>rfl) fun g0 hg=>?_
 refine rn tk 13 rfl ?_;cases hr;exact kr tk (.inr rfl) rfl rfl
theorem KXa(a0:Str)(a1:Str)(r:Int)(hr:wla a0 a1=some r):Run prog 166 [.s a0,.s a1] (.i r):=by
 unfold wla at hr;refine rf (fn:=f166) ⟨func166,rfl,by kernel_rfl⟩ rfl (fun _=>rfl) fun g0 hg=>?_
 refine rn tk 12 rfl<|ac 12 hr rfl (fun c1 hr=>?_) (fun c1 hr=>?_)
 .refine rn tk 7 rfl ?_;cases hr;exact kr tk (.inr rfl) rfl rfl
 refine rn tk 10 rfl<|ac 15 hr rfl (fun c2 hr=>?_) (fun c2 hr=>?_)
 .refine rn tk 3 rfl ?_;obtain ⟨v3,h4,hr⟩:=zaa hr;refine ws tk h4 rfl rfl rfl rfl<|wur tk rfl rfl rfl<|rn tk 3 rfl<|jb hr (fun j5=>[(0,.s a0),(5,.pv (.b (.int .i32 j5)))]) (fun j5=>[]) (fun j5 hr=>?_) (fun j5 hr=>?_)
  .refine rn tk 6 rfl<|ac 20 hr rfl (fun c6 hr=>?_) (fun c6 hr=>?_)
   .refine rn tk 3 rfl ?_;cases hr;exact jn _ rfl rfl rfl
   refine rn tk 1 rfl ?_;cases hr;exact jn _ rfl rfl rfl
  refine rn tk 4 rfl ?_;obtain ⟨v7,h8,hr⟩:=zaa hr;refine cl (yWa _ _ _ h8) rfl rfl<|rn tk 5 rfl ?_;cases hr;exact kr tk (.inr rfl) rfl rfl
 refine rn tk 7 rfl ?_;obtain ⟨v9,h10,hr⟩:=zaa hr;refine cl (y2a _ _ h10) rfl rfl<|rn tk 2 rfl<|ac 26 hr rfl (fun c11 hr=>?_) (fun c11 hr=>?_)
 .refine rn tk 3 rfl ?_;cases hr
 refine rn tk 6 rfl<|wr 1045 tk rfl rfl rfl rfl<|rn tk 3 rfl<|al2 hr (fun s12=>[(1,.s a1),(45,.ptr 1045 0)]) (fun s12=>[(1045,.it (strB a0) s12)]) (.exit 2) (fun b13=>[]) (fun b13=>[]) .ret (fun b14=>[(4,.i b14)]) (fun b14=>[]) rfl rfl (fun s12 x16 hr=>?_) (fun b13 hr=>?_) (fun b14 hr=>?_)
 .unfold qZa at hr;refine rn tk 2 rfl<|wnx hr rfl rfl rfl (fun c17 hr=>?_) (fun c17 hr=>?_)
  .refine rn tk 20 rfl ?_;obtain ⟨v18,h19,hr⟩:=zaa hr;refine cl (yWa _ _ _ h19) rfl rfl<|rn tk 3 rfl<|ac 53 hr rfl (fun c20 hr=>?_) (fun c20 hr=>?_)
   .refine rn tk 8 rfl ?_;cases hr;exact ato rfl rfl rfl rfl
   refine rn tk 2 rfl ?_;cases hr;exact atc rfl rfl
  refine rn tk 7 rfl ?_;cases hr;exact ato rfl rfl rfl rfl
 .refine rn tk 8 rfl ?_;cases hr;exact kr tk (.inr rfl) rfl rfl
 refine rn tk 2 rfl ?_;cases hr;exact kr tk (.inr rfl) rfl rfl
theorem zgb(g:G)(vs:Array Value)(t:TypeId):Old (fun _=>False) g ⟨g.w.alloc (.cells vs t),fun k=>if k=g.w.heap.size then 0 else g.u k,g.loc⟩:=by
 have h:=Zga g vs t 0 0 (g.loc 0);have e:(g.alloc vs t 0 0 (g.loc 0))=⟨g.w.alloc (.cells vs t),fun k=>if k=g.w.heap.size then 0 else g.u k,g.loc⟩:=by
  unfold G.alloc
  congr 1
  funext k;split
  .rename_i hk;rw[hk]
  rfl
 rw[<-e];exact h
theorem qgb{g:G}(h:Wf g)(vs:Array Value)(t:TypeId):Wf ⟨g.w.alloc (.cells vs t),fun k=>if k=g.w.heap.size then 0 else g.u k,g.loc⟩:=by
 intro k hk;have hk:g.w.heap.size+1<=k:=by simpa using hk
 show (if k=g.w.heap.size then 0 else g.u k)=0;rw[if_neg (by omega)];exact h k (by omega)
theorem wLb{t:Str}(h:JXa t=true):∀(j:Nat) b,(strB t).data.toList[j]? =some b->b.toNat < 128:=fun j b hb=>J5a h (jAd hb)
theorem Qka(s t:Str)(r:Int)(hr:qAa s t=some r):Run prog 166 [.s s,.s t] (.i r):=by
 unfold qAa at hr;split at hr
 case isFalse=>cases hr
 rename_i hc;obtain ⟨h1,h2,h3,h4⟩:=hc;by_cases h8:s.length<=8
 .exact KXa s t r (by rw[kZb s t h8 h3 h2 h4];exact hr)
 cases hr;refine ⟨⟨_,_,⟨func166,rfl,by kernel_rfl⟩⟩,fun g vs hw hg ha=>?_⟩;obtain ⟨hsz,hrel⟩:=ha;obtain ⟨l⟩:=vs
 match l,hsz with
 | [x,y],_=>
  obtain rfl:=QRa (hrel 0 _ rfl);obtain rfl:=QRa (hrel 1 _ rfl);have h116:(prog.info? 205).map (fun i=>(i.zero,i.size))=some (some (.agg (Array.replicate 256 (.bool false))),256):=by kernel_rfl
  have hz:=(zero_of_info h116).1;refine callsIn_wide.2 ((Tryz.strings_IndexAny_long hz (strB s) (strB t) g.w (by rw[kJa];exact h3) (by rw[kJa];omega) (by rw[kJa];exact h1) (by rw[kJa];exact h2) (wLb h4)).mono ?_);rintro e w' ⟨rfl,rfl⟩;have o1:=zgb g (Lib.setCells t) 205;have w1:=qgb hw (Lib.setCells t) 205;have o2:=zgb ⟨g.w.alloc (.cells (Lib.setCells t) 205),fun k=>if k=g.w.heap.size then 0 else g.u k,g.loc⟩ (Lib.setCells t) 205;have w2:=qgb w1 (Lib.setCells t) 205;have o3:Old (fun _=>False) g _:=o1.trans (o2.mono (S' :=fun b=>False∨g.w.heap.size<=b) (by intro b _ hf;exact hf.elim));exact ⟨⟨_,_,_⟩,_,rfl,(by rfl),o3,w2,(by rfl),.pv (.b rfl)⟩
theorem Z6a(a0:Str)(a1:Str)(r:Bool)(hr:kNa a0 a1=some r):Run prog 165 [.s a0,.s a1] (.bo r):=by
 unfold kNa at hr;refine rf (fn:=f165) ⟨func165,rfl,by kernel_rfl⟩ rfl (fun _=>rfl) fun g0 hg=>?_
 refine rn tk 9 rfl ?_;obtain ⟨v1,h2,hr⟩:=zaa hr;refine cl (Qka _ _ _ h2) rfl rfl<|rn tk 5 rfl ?_;cases hr;exact kr tk (.inr rfl) rfl rfl
theorem kbb(a0:Str)(r:Bool)(hr:KCa a0=some r):Run prog 161 [.s a0] (.bo r):=by
 unfold KCa at hr;refine rf (fn:=f161) ⟨func161,rfl,by kernel_rfl⟩ rfl (fun _=>rfl) fun g0 hg=>?_
 refine rn tk 8 rfl ?_;obtain ⟨v1,h2,hr⟩:=zaa hr;refine cl (Z6a _ _ _ h2) rfl rfl<|rn tk 4 rfl ?_;cases hr;exact kr tk (.inr rfl) rfl rfl
theorem Jya(a0:Str)(r:Bool)(hr:Zoa a0=some r):Run prog 153 [.s a0] (.bo r):=by
 unfold Zoa at hr;refine rf (fn:=Tryz.f153) ⟨func153,rfl,by kernel_rfl⟩ rfl (fun _=>rfl) fun g0 hg=>?_
 refine rn tk 5 rfl<|jb hr (fun j1=>[(2,.bo j1)]) (fun j1=>[]) (fun j1 hr=>?_) (fun j1 hr=>?_)
 .refine rn tk 2 rfl ?_;obtain ⟨v2,h3,hr⟩:=zaa hr;refine cl (kbb _ _ h3) rfl rfl<|rn tk 2 rfl<|bs 6 hr rfl (fun c4 hr=>?_) (fun c4 hr=>?_)
  .refine rn tk 3 rfl<|bs 9 hr rfl (fun c5 hr=>?_) (fun c5 hr=>?_)
   .refine rn tk 17 rfl ?_;cases hr;exact jn _ rfl rfl rfl
   refine rn tk 1 rfl ?_;obtain ⟨v6,h7,hr⟩:=zaa hr;refine ug rfl rfl rfl<|ws tk h7 rfl rfl rfl rfl ?_;obtain ⟨v8,h9,hr⟩:=zaa hr;refine ug rfl rfl rfl<|cl (yga _ _ h9) rfl rfl<|rn tk 2 rfl<|bs 14 hr rfl (fun c10 hr=>?_) (fun c10 hr=>?_)
   .refine rn tk 4 rfl ?_;obtain ⟨v11,h12,hr⟩:=zaa hr;refine ug rfl rfl rfl<|ws tk h12 rfl rfl rfl rfl ?_;obtain ⟨v13,h14,hr⟩:=zaa hr;refine ug rfl rfl rfl<|cl (yga _ _ h14) rfl rfl<|rn tk 6 rfl ?_;cases hr;exact jn _ rfl rfl rfl
   refine rn tk 12 rfl ?_;cases hr;exact jn _ rfl rfl rfl
  refine rn tk 20 rfl ?_;cases hr;exact jn _ rfl rfl rfl
 refine rn tk 1 rfl ?_;cases hr;exact kr tk (.inr rfl) rfl rfl
theorem VGa(a0:Str)(a1:Str)(r:(List Str) × zpa)(hr:Zqa a0 a1=some r):Run prog 145 [.s a0,.s a1] (.tup [.l cS r.1,.agg [.i r.2.Code,.i r.2.Index]]):=by
 unfold Zqa at hr;refine rf (fn:=Tryz.f145) ⟨func145,rfl,by kernel_rfl⟩ rfl (fun _=>rfl) fun g0 hg=>?_
 refine rn tk 11 rfl ?_;obtain ⟨v1,h2,hr⟩:=zaa hr;refine cl (kab _ _ h2) rfl rfl<|rn tk 4 rfl<|ac 12 hr rfl (fun c3 hr=>?_) (fun c3 hr=>?_)
 .refine rn tk 2 rfl ?_;obtain ⟨v4,h5,hr⟩:=zaa hr;refine cl (zka _ _ _ h5) rfl rfl<|rn tk 7 rfl ?_;cases hr;exact kr tk (.inr rfl) rfl rfl
 refine rn tk 8 rfl<|ac 17 hr rfl (fun c6 hr=>?_) (fun c6 hr=>?_)
 .refine rn tk 2 rfl ?_;obtain ⟨v7,h8,hr⟩:=zaa hr;refine cl (zka _ _ _ h8) rfl rfl<|rn tk 7 rfl ?_;cases hr;exact kr tk (.inr rfl) rfl rfl
 refine rn tk 3 rfl ?_;obtain ⟨v9,h10,hr⟩:=zaa hr;refine cl (Jya _ _ h10) rfl rfl<|rn tk 4 rfl<|ac 22 hr rfl (fun c11 hr=>?_) (fun c11 hr=>?_)
 .refine rn tk 2 rfl ?_;obtain ⟨v12,h13,hr⟩:=zaa hr;refine cl (zka _ _ _ h13) rfl rfl<|rn tk 7 rfl ?_;cases hr;exact kr tk (.inr rfl) rfl rfl
 refine rn tk 6 rfl ?_;obtain ⟨v14,h15,hr⟩:=zaa hr;refine wc h15 rfl rfl rfl<|rn tk 1 rfl ?_;obtain ⟨v16,h17,hr⟩:=zaa hr;refine wc h17 rfl rfl rfl<|rn tk 10 rfl ?_;refine qna 1008 (d:=8) 9 1 rfl rfl rfl (hO ?_);refine rn tk 4 rfl<|al1 hr (fun s18=>[(5,.ptr 5 0),(6,.s s18.1),(7,.i s18.2.1),(8,.hs 1008 0)]) (fun s18=>[(1008,.row 9 false 1 (List.map cS s18.2.2)),(5,.cells [.i 0,.i 0])]) (.exit 1) (fun b19=>[(5,.ptr 5 0),(6,.s b19.1),(8,.hs 1008 0)]) (fun b19=>[(1008,.row 9 false 1 (List.map cS b19.2)),(5,.cells [.i 0,.i 0])]) rfl rfl (fun s18 x20 hr=>?_) (fun b19 hr=>?_)
 .unfold yLa at hr;refine rn tk 8 rfl<|ac 36 hr rfl (fun c21 hr=>?_) (fun c21 hr=>?_)
  .refine rn tk 7 rfl ?_;obtain ⟨v22,h23,hr⟩:=zaa hr;refine cl (Jxa _ _ _ h23) rfl rfl<|rn tk 10 rfl<|ac 41 hr rfl (fun c24 hr=>?_) (fun c24 hr=>?_)
   .refine rn tk 3 rfl ?_;cases hr;exact ato rfl rfl rfl rfl
   refine rn tk 7 rfl ?_;obtain ⟨v25,h26,hr⟩:=zaa hr;refine wscH tk h26 rfl rfl rfl rfl<|wz cS ([v25]:List Str) tk rfl rfl (fun _=>rfl) rfl rfl rfl ?_;obtain ⟨v27,h28,hr⟩:=zaa hr;refine wa tk h28 rfl rfl rfl rfl (fun _=>rfl) rfl rfl<|rn tk 6 rfl ?_;obtain ⟨v29,h30,hr⟩:=zaa hr;refine wscL tk h30 rfl rfl rfl rfl<|rn tk 4 rfl ?_;cases hr;exact atc rfl rfl
  refine rn tk 2 rfl ?_;cases hr;exact ato rfl rfl rfl rfl
 refine rn tk 6 rfl<|wz cS ([b19.1]:List Str) tk rfl rfl (fun _=>rfl) rfl rfl rfl ?_;obtain ⟨v31,h32,hr⟩:=zaa hr;refine wa tk h32 rfl rfl rfl rfl (fun _=>rfl) rfl rfl<|rn tk 7 rfl<|wnh tk rfl rfl rfl rfl<|rn tk 4 rfl ?_;refine vNa (d:=55) (F:=cS) (l:=v31) rfl rfl (hC ?_);refine al2 hr (fun s34=>[(5,.ptr 5 0),(8,.hs 1008 0),(55,.l cS v31),(56,.i ((v31.length:Int))),(57,.i s34)]) (fun s34=>[(1008,.row 9 false 1 (List.map cS v31)),(5,.cells [.i 0,.i 0])]) (.exit 3) (fun b35=>[(5,.ptr 5 0),(8,.hs 1008 0)]) (fun b35=>[(1008,.row 9 false 1 (List.map cS v31)),(5,.cells [.i 0,.i 0])]) .ret (fun b36=>[(4,.l cS b36.1),(5,.ptr 5 0)]) (fun b36=>[(5,.cells [.i b36.2.Code,.i b36.2.Index])]) rfl rfl (fun s34 x38 hr=>?_) (fun b35 hr=>?_) (fun b36 hr=>?_)
 .unfold jXa at hr;refine rn tk 6 rfl<|ac 58 hr rfl (fun c39 hr=>?_) (fun c39 hr=>?_)
  .refine rn tk 7 rfl ?_;obtain ⟨v40,h41,hr⟩:=zaa hr;refine wi tk h41 rfl rfl rfl rfl rfl<|rn tk 12 rfl<|ac 64 hr rfl (fun c42 hr=>?_) (fun c42 hr=>?_)
   .refine rn tk 3 rfl ?_;obtain ⟨v43,h44,hr⟩:=zaa hr;refine cl (zka _ _ _ h44) rfl rfl<|rn tk 7 rfl ?_;cases hr;exact ato rfl rfl rfl rfl
   refine rn tk 7 rfl ?_;cases hr;exact atc rfl rfl
  refine rn tk 2 rfl ?_;cases hr;exact ato rfl rfl rfl rfl
 .refine rn tk 5 rfl ?_;obtain ⟨v45,h46,hr⟩:=zaa hr;refine cl (z4a _ h46) rfl rfl<|rn tk 4 rfl ?_;refine vNa (d:=4) (F:=cS) (l:=v31) rfl rfl (hC ?_);refine rn tk 1 rfl ?_;cases hr;exact kr tk (.inr rfl) rfl rfl
 refine rn tk 2 rfl ?_;cases hr;exact kr tk (.inr rfl) rfl rfl
theorem QTa(a0:List zja)(r:zpa)(hr:v5a a0=some r):Run prog 127 [.l zja.pc a0] (.agg [.i r.Code,.i r.Index]):=by
 unfold v5a at hr;refine rf (fn:=f127) ⟨func127,rfl,by kernel_rfl⟩ rfl (fun _=>rfl) fun g0 hg=>?_
 refine rn tk 9 rfl<|wn tk rfl rfl rfl<|rn tk 3 rfl<|ac 9 hr rfl (fun c1 hr=>?_) (fun c1 hr=>?_)
 .refine rn tk 2 rfl ?_;obtain ⟨v2,h3,hr⟩:=zaa hr;refine cl (zka _ _ _ h3) rfl rfl<|rn tk 5 rfl ?_;cases hr;exact kr tk (.inr rfl) rfl rfl
 refine rn tk 6 rfl<|wn tk rfl rfl rfl<|rn tk 4 rfl<|al2 hr (fun s4=>[(2,.ptr 2 0),(11,.l zja.pc a0),(12,.i ((a0.length:Int))),(13,.i s4)]) (fun s4=>[(2,.cells [.i 0,.i 0])]) (.exit 0) (fun b5=>[(2,.ptr 2 0)]) (fun b5=>[(2,.cells [.i 0,.i 0])]) .ret (fun b6=>[(2,.ptr 2 0)]) (fun b6=>[(2,.cells [.i b6.Code,.i b6.Index])]) rfl rfl (fun s4 x8 hr=>?_) (fun b5 hr=>?_) (fun b6 hr=>?_)
 .unfold vRa at hr;refine rn tk 6 rfl<|ac 14 hr rfl (fun c9 hr=>?_) (fun c9 hr=>?_)
  .refine rn tk 7 rfl ?_;obtain ⟨v10,h11,hr⟩:=zaa hr;refine wi tk h11 rfl rfl rfl rfl rfl<|rn tk 12 rfl ?_;obtain ⟨v12,h13,hr⟩:=zaa hr;refine cl (VGa _ _ _ h13) rfl rfl<|rn tk 11 rfl ?_;obtain ⟨v14,h15,hr⟩:=zaa hr;refine cl (zTa _ _ h15) rfl rfl<|rn tk 2 rfl<|ac 27 hr rfl (fun c16 hr=>?_) (fun c16 hr=>?_)
   .refine rn tk 5 rfl ?_;obtain ⟨v17,h18,hr⟩:=zaa hr;refine cl (zka _ _ _ h18) rfl rfl<|rn tk 6 rfl ?_;cases hr;exact ato rfl rfl rfl rfl
   refine rn tk 7 rfl ?_;cases hr;exact atc rfl rfl
  refine rn tk 2 rfl ?_;cases hr;exact ato rfl rfl rfl rfl
 .refine rn tk 4 rfl ?_;obtain ⟨v19,h20,hr⟩:=zaa hr;refine cl (z4a _ h20) rfl rfl<|rn tk 4 rfl ?_;cases hr;exact kr tk (.inr rfl) rfl rfl
 refine rn tk 2 rfl ?_;cases hr;exact kr tk (.inr rfl) rfl rfl
theorem Jza(a0:List UInt8)(r:Int)(hr:Zra a0=some r):Run prog 146 [.l cU a0] (.i r):=by
 unfold Zra at hr;refine rf (fn:=f146) ⟨func146,rfl,by kernel_rfl⟩ rfl (fun _=>rfl) fun g0 hg=>?_
 refine rn tk 17 rfl<|al2 hr (fun s1=>[(0,.l cU a0),(3,.i s1.1),(4,.i s1.2)]) (fun s1=>[]) (.exit 0) (fun b2=>[]) (fun b2=>[]) .ret (fun b3=>[(2,.i b3)]) (fun b3=>[]) rfl rfl (fun s1 x5 hr=>?_) (fun b2 hr=>?_) (fun b3 hr=>?_)
 .unfold wma at hr;refine rn tk 5 rfl<|wn tk rfl rfl rfl<|rn tk 3 rfl<|ac 9 hr rfl (fun c6 hr=>?_) (fun c6 hr=>?_)
  .refine rn tk 2 rfl<|jk (fun j7=>[(0,.l cU a0),(3,.i j7.1),(4,.i j7.2)]) (fun j7=>[]) (fun j7=>w1a j7=some x5) ?_ ?_
   .refine rn tk 5 rfl ?_;obtain ⟨v8,h9,hr⟩:=zaa hr;refine wi tk h9 rfl rfl rfl rfl rfl<|rn tk 5 rfl<|jb hr (fun j10=>[(0,.l cU a0),(3,.i s1.1),(4,.i s1.2),(5,.u8 v8),(32,.bo j10)]) (fun j10=>[]) (fun j10 hr=>?_) (fun j10 hr=>?_)
    .refine rn tk 4 rfl<|bs 18 hr rfl (fun c11 hr=>?_) (fun c11 hr=>?_)
     .refine rn tk 3 rfl<|ug rfl rfl rfl<|wn tk rfl rfl rfl<|rn tk 3 rfl<|bs 25 hr rfl (fun c12 hr=>?_) (fun c12 hr=>?_)
      .refine rn tk 3 rfl ?_;obtain ⟨v13,h14,hr⟩:=zaa hr;refine ug rfl rfl rfl<|wi tk h14 rfl rfl rfl rfl rfl<|rn tk 4 rfl ?_;cases hr;exact jn _ rfl rfl rfl
      refine rn tk 8 rfl ?_;cases hr;exact jn _ rfl rfl rfl
     refine rn tk 15 rfl ?_;cases hr;exact jn _ rfl rfl rfl
    refine ac 32 hr rfl (fun c15 hr=>?_) (fun c15 hr=>?_)
    .refine rn tk 15 rfl<|jn ((0,(w64 (s1.2+1)))) hr rfl rfl
    refine rn tk 3 rfl<|jb hr (fun j16=>[(0,.l cU a0),(3,.i s1.1),(4,.i s1.2),(40,.bo j16)]) (fun j16=>[]) (fun j16 hr=>?_) (fun j16 hr=>?_)
    .refine rn tk 4 rfl<|bs 37 hr rfl (fun c17 hr=>?_) (fun c17 hr=>?_)
     .refine rn tk 4 rfl ?_;cases hr;exact jn _ rfl rfl rfl
     refine rn tk 4 rfl ?_;cases hr;exact jn _ rfl rfl rfl
    refine ac 40 hr rfl (fun c18 hr=>?_) (fun c18 hr=>?_)
    .refine rn tk 9 rfl ?_;cases hr;exact ato rfl rfl rfl rfl
    refine rn tk 15 rfl<|ac 44 hr rfl (fun c19 hr=>?_) (fun c19 hr=>?_)
    .refine rn tk 8 rfl ?_;cases hr;exact ato rfl rfl rfl rfl
    refine rn tk 2 rfl<|jn (((w64 (s1.1+1)),s1.2)) hr rfl rfl
   intro j7 hr;unfold w1a at hr;refine rn tk 5 rfl ?_;cases hr;exact atc rfl rfl
  refine rn tk 2 rfl ?_;cases hr;exact ato rfl rfl rfl rfl
 .refine rn tk 8 rfl ?_;cases hr;exact kr tk (.inr rfl) rfl rfl
 refine rn tk 2 rfl ?_;cases hr;exact kr tk (.inr rfl) rfl rfl
theorem WKa(a0:List UInt8)(r:zpa)(hr:yMa a0=some r):Run prog 129 [.l cU a0] (.agg [.i r.Code,.i r.Index]):=by
 unfold yMa at hr;refine rf (fn:=f129) ⟨func129,rfl,by kernel_rfl⟩ rfl (fun _=>rfl) fun g0 hg=>?_
 refine rn tk 9 rfl ?_;obtain ⟨v1,h2,hr⟩:=zaa hr;refine cl (Jza _ _ h2) rfl rfl<|rn tk 9 rfl<|ac 5 hr rfl (fun c3 hr=>?_) (fun c3 hr=>?_)
 .refine rn tk 2 rfl ?_;obtain ⟨v4,h5,hr⟩:=zaa hr;refine cl (zka _ _ _ h5) rfl rfl<|rn tk 6 rfl ?_;cases hr;exact kr tk (.inr rfl) rfl rfl
 refine rn tk 6 rfl<|ac 8 hr rfl (fun c6 hr=>?_) (fun c6 hr=>?_)
 .refine rn tk 2 rfl ?_;obtain ⟨v7,h8,hr⟩:=zaa hr;refine cl (zka _ _ _ h8) rfl rfl<|rn tk 6 rfl ?_;cases hr;exact kr tk (.inr rfl) rfl rfl
 refine rn tk 5 rfl ?_;obtain ⟨v9,h10,hr⟩:=zaa hr;refine cl (z4a _ h10) rfl rfl<|rn tk 4 rfl ?_;cases hr;exact kr tk (.inr rfl) rfl rfl
theorem Wna(a0:zya)(r:List UInt8)(hr:w0a a0=some r):Run prog 128 [.agg [.l zja.pc a0.Fields,.l cU a0.Body]] (.l cU r):=by
 unfold w0a at hr;refine rf (fn:=f128) ⟨func128,rfl,by kernel_rfl⟩ rfl (fun _=>rfl) fun g0 hg=>?_
 refine rn tk 9 rfl ?_;refine qna 1003 (d:=3) 5 1 rfl rfl rfl (hO ?_);refine rn tk 7 rfl<|wn tk rfl rfl rfl<|rn tk 4 rfl<|al1 hr (fun s1=>[(1,.ptr 1 0),(3,.hs 1003 0),(11,.l zja.pc a0.Fields),(12,.i ((a0.Fields.length:Int))),(13,.i s1.1)]) (fun s1=>[(1003,.row 5 false 1 (List.map cU s1.2)),(1,.cells [.l zja.pc a0.Fields,.l cU a0.Body])]) (.exit 0) (fun b2=>[(1,.ptr 1 0),(3,.hs 1003 0)]) (fun b2=>[(1003,.row 5 false 1 (List.map cU b2)),(1,.cells [.l zja.pc a0.Fields,.l cU a0.Body])]) rfl rfl (fun s1 x3 hr=>?_) (fun b2 hr=>?_)
 .unfold vAa at hr;refine rn tk 6 rfl<|ac 14 hr rfl (fun c4 hr=>?_) (fun c4 hr=>?_)
  .refine rn tk 6 rfl ?_;obtain ⟨v5,h6,hr⟩:=zaa hr;refine wi tk h6 rfl rfl rfl rfl rfl<|rn tk 11 rfl ?_;obtain ⟨v7,h8,hr⟩:=zaa hr;refine cl (VGa _ _ _ h8) rfl rfl<|rn tk 11 rfl<|wn tk rfl rfl rfl<|rn tk 4 rfl<|al1 hr (fun s9=>[(1,.ptr 1 0),(3,.hs 1003 0),(11,.l zja.pc a0.Fields),(12,.i ((a0.Fields.length:Int))),(13,.i s1.1),(25,.l cS v7.1),(26,.i ((v7.1.length:Int))),(27,.i s9.1)]) (fun s9=>[(1003,.row 5 false 1 (List.map cU s9.2)),(1,.cells [.l zja.pc a0.Fields,.l cU a0.Body])]) (.exit 2) (fun b10=>[(1,.ptr 1 0),(3,.hs 1003 0),(11,.l zja.pc a0.Fields),(12,.i ((a0.Fields.length:Int))),(13,.i s1.1)]) (fun b10=>[(1003,.row 5 false 1 (List.map cU b10)),(1,.cells [.l zja.pc a0.Fields,.l cU a0.Body])]) rfl rfl (fun s9 x11 hr=>?_) (fun b10 hr=>?_)
   .unfold vza at hr;refine rn tk 6 rfl<|ac 28 hr rfl (fun c12 hr=>?_) (fun c12 hr=>?_)
    .refine rn tk 6 rfl ?_;obtain ⟨v13,h14,hr⟩:=zaa hr;refine wi tk h14 rfl rfl rfl rfl rfl<|rn tk 7 rfl ?_;obtain ⟨v15,h16,hr⟩:=zaa hr;refine wo (Koa (k:=33) (l:=s9.2) (s:=v13) (lim:=140737488355328) rfl rfl rfl rfl zqa kaa.u zRa rfl h16) rfl<|wz cU ([(13:UInt8),(10:UInt8)]:List UInt8) tk rfl rfl (fun _=>rfl) rfl rfl rfl ?_;obtain ⟨v17,h18,hr⟩:=zaa hr;refine wa tk h18 rfl rfl rfl rfl (fun _=>rfl) rfl rfl<|rn tk 8 rfl ?_;cases hr;exact atc rfl rfl
    refine rn tk 2 rfl ?_;cases hr;exact ato rfl rfl rfl rfl
   refine rn tk 7 rfl ?_;cases hr;exact atc rfl rfl
  refine rn tk 2 rfl ?_;cases hr;exact ato rfl rfl rfl rfl
 refine rn tk 3 rfl ?_;obtain ⟨v19,h20,hr⟩:=zaa hr;obtain ⟨v21,h22,hr⟩:=zaa hr;refine qub [([false,false,false,false,false,false,false],[(1,.ptr 1 0),(3,.hs 1003 0)],[(1003,.row 5 false 1 (List.map cU b2)),(1,.cells [.l zja.pc a0.Fields,.l cU a0.Body])]),([true,false,false,false,false,false,false],[(1,.ptr 1 0),(3,.hs 1003 0),(38,.hs 1003 0)],[(1003,.row 5 false 1 (List.map cU b2)),(1,.cells [.l zja.pc a0.Fields,.l cU a0.Body])]),([false,true,false,false,false,false,false],[(1,.ptr 1 0),(3,.hs 1003 0),(39,.l cU (([(13:UInt8),(10:UInt8)]:List UInt8)))],[(1003,.row 5 false 1 (List.map cU b2)),(1,.cells [.l zja.pc a0.Fields,.l cU a0.Body])]),([false,false,false,true,false,false,false],[(1,.ptr 1 0),(3,.hs 1003 0),(41,.ptr 1 1)],[(1003,.row 5 false 1 (List.map cU b2)),(1,.cells [.l zja.pc a0.Fields,.l cU a0.Body])]),([true,true,false,false,false,false,false],[(1,.ptr 1 0),(3,.hs 1003 0),(38,.hs 1003 0),(39,.l cU (([(13:UInt8),(10:UInt8)]:List UInt8)))],[(1003,.row 5 false 1 (List.map cU b2)),(1,.cells [.l zja.pc a0.Fields,.l cU a0.Body])]),([true,false,false,true,false,false,false],[(1,.ptr 1 0),(3,.hs 1003 0),(38,.hs 1003 0),(41,.ptr 1 1)],[(1003,.row 5 false 1 (List.map cU b2)),(1,.cells [.l zja.pc a0.Fields,.l cU a0.Body])]),([false,true,false,true,false,false,false],[(1,.ptr 1 0),(3,.hs 1003 0),(39,.l cU (([(13:UInt8),(10:UInt8)]:List UInt8))),(41,.ptr 1 1)],[(1003,.row 5 false 1 (List.map cU b2)),(1,.cells [.l zja.pc a0.Fields,.l cU a0.Body])]),([false,false,false,true,true,false,false],[(1,.ptr 1 0),(3,.hs 1003 0),(41,.ptr 1 1),(42,.l cU a0.Body)],[(1003,.row 5 false 1 (List.map cU b2)),(1,.cells [.l zja.pc a0.Fields,.l cU a0.Body])]),([true,true,true,false,false,false,false],[(1,.ptr 1 0),(39,.l cU (([(13:UInt8),(10:UInt8)]:List UInt8))),(40,.hs 1003 0)],[(1003,.row 5 false 1 (List.map cU v19)),(1,.cells [.l zja.pc a0.Fields,.l cU a0.Body])]),([true,true,false,true,false,false,false],[(1,.ptr 1 0),(3,.hs 1003 0),(38,.hs 1003 0),(39,.l cU (([(13:UInt8),(10:UInt8)]:List UInt8))),(41,.ptr 1 1)],[(1003,.row 5 false 1 (List.map cU b2)),(1,.cells [.l zja.pc a0.Fields,.l cU a0.Body])]),([true,false,false,true,true,false,false],[(1,.ptr 1 0),(3,.hs 1003 0),(38,.hs 1003 0),(41,.ptr 1 1),(42,.l cU a0.Body)],[(1003,.row 5 false 1 (List.map cU b2)),(1,.cells [.l zja.pc a0.Fields,.l cU a0.Body])]),([false,true,false,true,true,false,false],[(1,.ptr 1 0),(3,.hs 1003 0),(39,.l cU (([(13:UInt8),(10:UInt8)]:List UInt8))),(41,.ptr 1 1),(42,.l cU a0.Body)],[(1003,.row 5 false 1 (List.map cU b2)),(1,.cells [.l zja.pc a0.Fields,.l cU a0.Body])]),([true,true,true,true,false,false,false],[(1,.ptr 1 0),(39,.l cU (([(13:UInt8),(10:UInt8)]:List UInt8))),(40,.hs 1003 0),(41,.ptr 1 1)],[(1003,.row 5 false 1 (List.map cU v19)),(1,.cells [.l zja.pc a0.Fields,.l cU a0.Body])]),([true,true,false,true,true,false,false],[(1,.ptr 1 0),(3,.hs 1003 0),(38,.hs 1003 0),(39,.l cU (([(13:UInt8),(10:UInt8)]:List UInt8))),(41,.ptr 1 1),(42,.l cU a0.Body)],[(1003,.row 5 false 1 (List.map cU b2)),(1,.cells [.l zja.pc a0.Fields,.l cU a0.Body])]),([true,true,true,true,true,false,false],[(1,.ptr 1 0),(39,.l cU (([(13:UInt8),(10:UInt8)]:List UInt8))),(40,.hs 1003 0),(41,.ptr 1 1),(42,.l cU a0.Body)],[(1003,.row 5 false 1 (List.map cU v19)),(1,.cells [.l zja.pc a0.Fields,.l cU a0.Body])]),([true,true,true,true,true,true,false],[(1,.ptr 1 0),(39,.l cU (([(13:UInt8),(10:UInt8)]:List UInt8))),(41,.ptr 1 1),(42,.l cU a0.Body),(43,.hs 1003 0)],[(1003,.row 5 false 1 (List.map cU v21)),(1,.cells [.l zja.pc a0.Fields,.l cU a0.Body])]),([true,true,true,true,true,true,true],[(1,.ptr 1 0),(2,.hs 1003 0),(39,.l cU (([(13:UInt8),(10:UInt8)]:List UInt8))),(41,.ptr 1 1),(42,.l cU a0.Body),(43,.hs 1003 0)],[(1003,.row 5 false 1 (List.map cU v21)),(1,.cells [.l zja.pc a0.Fields,.l cU a0.Body])])] mixed (by kernel_rfl) rfl rfl (zga rfl (zga rfl z5a)) (zda rfl (zda rfl zoa)) (.cons (.step [0,1,3] (by kernel_rfl) rfl (.cons (.yes 1 rfl (zBa rfl) (zLa (d:=38) rfl rfl k1a) rfl (zga rfl (zga rfl (zga rfl z5a))) (zda rfl (zda rfl zoa))) (.cons (.yes 2 rfl (zBa rfl) (Qpa (d:=39) rfl rfl (v0a (F:=cU) (l:=([(13:UInt8),(10:UInt8)]:List UInt8)) zqa zRa rfl (fun _=>rfl) rfl rfl)) rfl (zga rfl (zga rfl (zga rfl z5a))) (zda rfl (zda rfl zoa))) (.cons (.yes 3 rfl (zBa rfl) (zLa (d:=41) rfl rfl (wMa rfl qOa.u rfl zqa rfl)) rfl (zga rfl (zga rfl (zga rfl z5a))) (zda rfl (zda rfl zoa))) .nil)))) (.cons (.step [1,3] (by kernel_rfl) rfl (.cons (.yes 4 rfl (zBa rfl) (Qpa (d:=39) rfl rfl (v0a (F:=cU) (l:=([(13:UInt8),(10:UInt8)]:List UInt8)) zqa zRa rfl (fun _=>rfl) rfl rfl)) rfl (zga rfl (zga rfl (zga rfl (zga rfl z5a)))) (zda rfl (zda rfl zoa))) (.cons (.yes 5 rfl (zBa rfl) (zLa (d:=41) rfl rfl (wMa rfl qOa.u rfl zqa rfl)) rfl (zga rfl (zga rfl (zga rfl (zga rfl z5a)))) (zda rfl (zda rfl zoa))) .nil))) (.cons (.step [0,3] (by kernel_rfl) rfl (.cons (.yes 4 rfl (zBa rfl) (zLa (d:=38) rfl rfl k1a) rfl (zga rfl (zga rfl (zga rfl (zga rfl z5a)))) (zda rfl (zda rfl zoa))) (.cons (.yes 6 rfl (zBa rfl) (zLa (d:=41) rfl rfl (wMa rfl qOa.u rfl zqa rfl)) rfl (zga rfl (zga rfl (zga rfl (zga rfl z5a)))) (zda rfl (zda rfl zoa))) .nil))) (.cons (.step [0,1,4] (by kernel_rfl) rfl (.cons (.yes 5 rfl (zBa rfl) (zLa (d:=38) rfl rfl k1a) rfl (zga rfl (zga rfl (zga rfl (zga rfl z5a)))) (zda rfl (zda rfl zoa))) (.cons (.yes 6 rfl (zBa rfl) (Qpa (d:=39) rfl rfl (v0a (F:=cU) (l:=([(13:UInt8),(10:UInt8)]:List UInt8)) zqa zRa rfl (fun _=>rfl) rfl rfl)) rfl (zga rfl (zga rfl (zga rfl (zga rfl z5a)))) (zda rfl (zda rfl zoa))) (.cons (.yes 7 rfl (zBa rfl) (zLa (d:=42) rfl rfl (VMa rfl rfl zqa rfl rfl)) rfl (zga rfl (zga rfl (zga rfl (zga rfl z5a)))) (zda rfl (zda rfl zoa))) .nil)))) (.cons (.step [2,3] (by kernel_rfl) rfl (.cons (.yes 8 rfl (zBa rfl) (yja (k:=40) (F:=cU) (l:=b2) (xs:=(([(13:UInt8),(10:UInt8)]:List UInt8))) (lim:=140737488355328) rfl rfl rfl rfl zqa zRa rfl rfl (fun _=>rfl) rfl h20) rfl (zga rfl (zga rfl (zga rfl z5a))) (zda rfl (zda rfl zoa))) (.cons (.yes 9 rfl (zBa rfl) (zLa (d:=41) rfl rfl (wMa rfl qOa.u rfl zqa rfl)) rfl (zga rfl (zga rfl (zga rfl (zga rfl (zga rfl z5a))))) (zda rfl (zda rfl zoa))) .nil))) (.cons (.step [1,4] (by kernel_rfl) rfl (.cons (.yes 9 rfl (zBa rfl) (Qpa (d:=39) rfl rfl (v0a (F:=cU) (l:=([(13:UInt8),(10:UInt8)]:List UInt8)) zqa zRa rfl (fun _=>rfl) rfl rfl)) rfl (zga rfl (zga rfl (zga rfl (zga rfl (zga rfl z5a))))) (zda rfl (zda rfl zoa))) (.cons (.yes 10 rfl (zBa rfl) (zLa (d:=42) rfl rfl (VMa rfl rfl zqa rfl rfl)) rfl (zga rfl (zga rfl (zga rfl (zga rfl (zga rfl z5a))))) (zda rfl (zda rfl zoa))) .nil))) (.cons (.step [0,4] (by kernel_rfl) rfl (.cons (.yes 9 rfl (zBa rfl) (zLa (d:=38) rfl rfl k1a) rfl (zga rfl (zga rfl (zga rfl (zga rfl (zga rfl z5a))))) (zda rfl (zda rfl zoa))) (.cons (.yes 11 rfl (zBa rfl) (zLa (d:=42) rfl rfl (VMa rfl rfl zqa rfl rfl)) rfl (zga rfl (zga rfl (zga rfl (zga rfl (zga rfl z5a))))) (zda rfl (zda rfl zoa))) .nil))) (.cons (.step [0,1] (by kernel_rfl) rfl (.cons (.yes 10 rfl (zBa rfl) (zLa (d:=38) rfl rfl k1a) rfl (zga rfl (zga rfl (zga rfl (zga rfl (zga rfl z5a))))) (zda rfl (zda rfl zoa))) (.cons (.yes 11 rfl (zBa rfl) (Qpa (d:=39) rfl rfl (v0a (F:=cU) (l:=([(13:UInt8),(10:UInt8)]:List UInt8)) zqa zRa rfl (fun _=>rfl) rfl rfl)) rfl (zga rfl (zga rfl (zga rfl (zga rfl (zga rfl z5a))))) (zda rfl (zda rfl zoa))) .nil))) (.cons (.step [3] (by kernel_rfl) rfl (.cons (.yes 12 rfl (zBa rfl) (zLa (d:=41) rfl rfl (wMa rfl qOa.u rfl zqa rfl)) rfl (zga rfl (zga rfl (zga rfl (zga rfl z5a)))) (zda rfl (zda rfl zoa))) .nil)) (.cons (.step [2,4] (by kernel_rfl) rfl (.cons (.yes 12 rfl (zBa rfl) (yja (k:=40) (F:=cU) (l:=b2) (xs:=(([(13:UInt8),(10:UInt8)]:List UInt8))) (lim:=140737488355328) rfl rfl rfl rfl zqa zRa rfl rfl (fun _=>rfl) rfl h20) rfl (zga rfl (zga rfl (zga rfl (zga rfl z5a)))) (zda rfl (zda rfl zoa))) (.cons (.yes 13 rfl (zBa rfl) (zLa (d:=42) rfl rfl (VMa rfl rfl zqa rfl rfl)) rfl (zga rfl (zga rfl (zga rfl (zga rfl (zga rfl (zga rfl z5a)))))) (zda rfl (zda rfl zoa))) .nil))) (.cons (.step [1] (by kernel_rfl) rfl (.cons (.yes 13 rfl (zBa rfl) (Qpa (d:=39) rfl rfl (v0a (F:=cU) (l:=([(13:UInt8),(10:UInt8)]:List UInt8)) zqa zRa rfl (fun _=>rfl) rfl rfl)) rfl (zga rfl (zga rfl (zga rfl (zga rfl (zga rfl (zga rfl z5a)))))) (zda rfl (zda rfl zoa))) .nil)) (.cons (.step [0] (by kernel_rfl) rfl (.cons (.yes 13 rfl (zBa rfl) (zLa (d:=38) rfl rfl k1a) rfl (zga rfl (zga rfl (zga rfl (zga rfl (zga rfl (zga rfl z5a)))))) (zda rfl (zda rfl zoa))) .nil)) (.cons (.step [4] (by kernel_rfl) rfl (.cons (.yes 14 rfl (zBa rfl) (zLa (d:=42) rfl rfl (VMa rfl rfl zqa rfl rfl)) rfl (zga rfl (zga rfl (zga rfl (zga rfl (zga rfl z5a))))) (zda rfl (zda rfl zoa))) .nil)) (.cons (.step [2] (by kernel_rfl) rfl (.cons (.yes 14 rfl (zBa rfl) (yja (k:=40) (F:=cU) (l:=b2) (xs:=(([(13:UInt8),(10:UInt8)]:List UInt8))) (lim:=140737488355328) rfl rfl rfl rfl zqa zRa rfl rfl (fun _=>rfl) rfl h20) rfl (zga rfl (zga rfl (zga rfl (zga rfl (zga rfl z5a))))) (zda rfl (zda rfl zoa))) .nil)) (.cons (.step [5] (by kernel_rfl) rfl (.cons (.yes 15 rfl (zBa rfl) (yja (k:=43) (F:=cU) (l:=v19) (xs:=a0.Body) (lim:=140737488355328) rfl rfl rfl rfl zqa zRa rfl rfl (fun _=>rfl) rfl h22) rfl (zga rfl (zga rfl (zga rfl (zga rfl (zga rfl z5a))))) (zda rfl (zda rfl zoa))) .nil)) (.cons (.step [6] (by kernel_rfl) rfl (.cons (.yes 16 rfl (zBa rfl) (zLa (d:=2) rfl rfl qEa) rfl (zga rfl (zga rfl (zga rfl (zga rfl (zga rfl (zga rfl z5a)))))) (zda rfl (zda rfl zoa))) .nil)) (.cons (.full (by kernel_rfl) (hA ?_)) .nil)))))))))))))))));refine rn tk 1 rfl ?_;refine vNa (d:=2) (F:=cU) (l:=v21) rfl rfl (hC ?_);refine rn tk 1 rfl ?_;cases hr;exact kr tk (.inr rfl) rfl rfl
theorem Qla(a0:zya)(r:zpa)(hr:vBa a0=some r):Run prog 89 [.agg [.l zja.pc a0.Fields,.l cU a0.Body]] (.agg [.i r.Code,.i r.Index]):=by
 unfold vBa at hr;refine rf (fn:=f89) ⟨func89,rfl,by kernel_rfl⟩ rfl (fun _=>rfl) fun g0 hg=>?_
 refine rn tk 11 rfl ?_;obtain ⟨v1,h2,hr⟩:=zaa hr;refine cl (QTa _ _ h2) rfl rfl<|rn tk 7 rfl ?_;obtain ⟨v3,h4,hr⟩:=zaa hr;refine cl (zTa _ _ h4) rfl rfl<|rn tk 2 rfl<|ac 8 hr rfl (fun c5 hr=>?_) (fun c5 hr=>?_)
 .refine rn tk 8 rfl ?_;cases hr;exact kr tk (.inr rfl) rfl rfl
 refine rn tk 6 rfl ?_;obtain ⟨v6,h7,hr⟩:=zaa hr;refine cl (Wna _ _ h7) rfl rfl<|wn tk rfl rfl rfl<|rn tk 3 rfl<|ac 13 hr rfl (fun c8 hr=>?_) (fun c8 hr=>?_)
 .refine rn tk 2 rfl ?_;obtain ⟨v9,h10,hr⟩:=zaa hr;refine cl (zka _ _ _ h10) rfl rfl<|rn tk 5 rfl ?_;cases hr;exact kr tk (.inr rfl) rfl rfl
 refine rn tk 6 rfl ?_;obtain ⟨v11,h12,hr⟩:=zaa hr;refine cl (WKa _ _ h12) rfl rfl<|rn tk 4 rfl ?_;cases hr;exact kr tk (.inr rfl) rfl rfl
theorem yha(a0:kia)(r:zpa)(hr:qQa a0=some r):Run prog 49 [.agg (zN2 a0)] (.agg [.i r.Code,.i r.Index]):=by
 unfold qQa at hr;refine rf (fn:=f49) ⟨func49,rfl,by kernel_rfl⟩ rfl (fun _=>rfl) fun g0 hg=>?_
 refine rn tk 11 rfl ?_;obtain ⟨v1,h2,hr⟩:=zaa hr;refine cl (KWa _ _ h2) rfl rfl<|rn tk 7 rfl ?_;obtain ⟨v3,h4,hr⟩:=zaa hr;refine cl (zTa _ _ h4) rfl rfl<|rn tk 2 rfl<|ac 9 hr rfl (fun c5 hr=>?_) (fun c5 hr=>?_)
 .refine rn tk 8 rfl ?_;cases hr;exact kr tk (.inr rfl) rfl rfl
 refine rn tk 7 rfl ?_;obtain ⟨v6,h7,hr⟩:=zaa hr;refine cl (Qla _ _ h7) rfl rfl<|rn tk 7 rfl ?_;obtain ⟨v8,h9,hr⟩:=zaa hr;refine cl (zTa _ _ h9) rfl rfl<|rn tk 2 rfl<|ac 15 hr rfl (fun c10 hr=>?_) (fun c10 hr=>?_)
 .refine rn tk 4 rfl ?_;obtain ⟨v11,h12,hr⟩:=zaa hr;refine cl (zka _ _ _ h12) rfl rfl<|rn tk 5 rfl ?_;cases hr;exact kr tk (.inr rfl) rfl rfl
 refine rn tk 4 rfl ?_;obtain ⟨v13,h14,hr⟩:=zaa hr;refine cl (z4a _ h14) rfl rfl<|rn tk 4 rfl ?_;cases hr;exact kr tk (.inr rfl) rfl rfl
theorem JAa(a0:zha)(r:zpa)(hr:Zxa a0=some r):Run prog 48 [.agg (zN1 a0)] (.agg [.i r.Code,.i r.Index]):=by
 unfold Zxa at hr;refine rf (fn:=f48) ⟨func48,rfl,by kernel_rfl⟩ rfl (fun _=>rfl) fun g0 hg=>?_
 refine rn tk 16 rfl<|jb hr (fun j1=>[(1,.ptr 1 0),(2,.ptr 2 0),(3,.ptr 3 0),(8,.bo j1)]) (fun j1=>[(3,.cells (zN0 a0.Attempt)),(2,.cells [.i 0,.i 0]),(1,.cells (zN1 a0))]) (fun j1 hr=>?_) (fun j1 hr=>?_)
 .refine rn tk 5 rfl<|bs 12 hr rfl (fun c2 hr=>?_) (fun c2 hr=>?_)
  .refine rn tk 6 rfl ?_;cases hr;exact jn _ rfl rfl rfl
  refine rn tk 6 rfl ?_;cases hr;exact jn _ rfl rfl rfl
 refine ac 8 hr rfl (fun c3 hr=>?_) (fun c3 hr=>?_)
 .refine rn tk 2 rfl ?_;obtain ⟨v4,h5,hr⟩:=zaa hr;refine cl (zka _ _ _ h5) rfl rfl<|rn tk 6 rfl ?_;cases hr;exact kr tk (.inr rfl) rfl rfl
 refine rn tk 4 rfl ?_;obtain ⟨v6,h7,hr⟩:=zaa hr;refine cl (jJa _ _ h7) rfl rfl<|rn tk 4 rfl<|ac 18 hr rfl (fun c8 hr=>?_) (fun c8 hr=>?_)
 .refine rn tk 2 rfl ?_;obtain ⟨v9,h10,hr⟩:=zaa hr;refine cl (zka _ _ _ h10) rfl rfl<|rn tk 6 rfl ?_;cases hr;exact kr tk (.inr rfl) rfl rfl
 refine jb hr (fun j11=>[(1,.ptr 1 0),(2,.ptr 2 0),(3,.ptr 3 0),(24,.bo j11)]) (fun j11=>[(3,.cells (zN0 a0.Attempt)),(2,.cells [.i 0,.i 0]),(1,.cells (zN1 a0))]) (fun j11 hr=>?_) (fun j11 hr=>?_)
 .refine rn tk 3 rfl<|wn tk rfl rfl rfl<|rn tk 2 rfl<|bs 29 hr rfl (fun c12 hr=>?_) (fun c12 hr=>?_)
  .refine rn tk 7 rfl ?_;cases hr;exact jn _ rfl rfl rfl
  refine rn tk 2 rfl<|ug rfl rfl rfl<|wn tk rfl rfl rfl<|rn tk 4 rfl ?_;cases hr;exact jn _ rfl rfl rfl
 refine ac 24 hr rfl (fun c13 hr=>?_) (fun c13 hr=>?_)
 .refine rn tk 2 rfl ?_;obtain ⟨v14,h15,hr⟩:=zaa hr;refine cl (zka _ _ _ h15) rfl rfl<|rn tk 6 rfl ?_;cases hr;exact kr tk (.inr rfl) rfl rfl
 refine rn tk 8 rfl<|wn tk rfl rfl rfl<|rn tk 4 rfl<|al2 hr (fun s16=>[(1,.ptr 1 0),(2,.ptr 2 0),(3,.ptr 3 0),(37,.l cI a0.Attempt.To),(38,.i ((a0.Attempt.To.length:Int))),(39,.i s16)]) (fun s16=>[(3,.cells (zN0 a0.Attempt)),(2,.cells [.i 0,.i 0]),(1,.cells (zN1 a0))]) (.exit 1) (fun b17=>[(1,.ptr 1 0),(2,.ptr 2 0),(3,.ptr 3 0)]) (fun b17=>[(3,.cells (zN0 a0.Attempt)),(2,.cells [.i 0,.i 0]),(1,.cells (zN1 a0))]) .ret (fun b18=>[(2,.ptr 2 0)]) (fun b18=>[(2,.cells [.i b18.Code,.i b18.Index])]) rfl rfl (fun s16 x20 hr=>?_) (fun b17 hr=>?_) (fun b18 hr=>?_)
 .unfold voa at hr;refine rn tk 6 rfl<|ac 40 hr rfl (fun c21 hr=>?_) (fun c21 hr=>?_)
  .refine rn tk 7 rfl ?_;obtain ⟨v22,h23,hr⟩:=zaa hr;refine wi tk h23 rfl rfl rfl rfl rfl<|rn tk 5 rfl<|jb hr (fun j24=>[(1,.ptr 1 0),(2,.ptr 2 0),(3,.ptr 3 0),(37,.l cI a0.Attempt.To),(38,.i ((a0.Attempt.To.length:Int))),(39,.i s16),(63,.bo j24)]) (fun j24=>[(3,.cells (zN0 a0.Attempt)),(2,.cells [.i 0,.i 0]),(1,.cells (zN1 a0))]) (fun j24 hr=>?_) (fun j24 hr=>?_)
   .refine rn tk 4 rfl<|bs 46 hr rfl (fun c25 hr=>?_) (fun c25 hr=>?_)
    .refine rn tk 18 rfl ?_;cases hr;exact jn _ rfl rfl rfl
    refine rn tk 4 rfl<|bs 50 hr rfl (fun c26 hr=>?_) (fun c26 hr=>?_)
    .refine rn tk 14 rfl ?_;cases hr;exact jn _ rfl rfl rfl
    refine rn tk 3 rfl<|bs 53 hr rfl (fun c27 hr=>?_) (fun c27 hr=>?_)
    .refine rn tk 5 rfl ?_;obtain ⟨v28,h29,hr⟩:=zaa hr;refine ug rfl rfl rfl<|wi tk h29 rfl rfl rfl rfl rfl<|rn tk 5 rfl ?_;cases hr;exact jn _ rfl rfl rfl
    refine rn tk 11 rfl ?_;cases hr;exact jn _ rfl rfl rfl
   refine ac 63 hr rfl (fun c30 hr=>?_) (fun c30 hr=>?_)
   .refine rn tk 2 rfl ?_;obtain ⟨v31,h32,hr⟩:=zaa hr;refine cl (zka _ _ _ h32) rfl rfl<|rn tk 6 rfl ?_;cases hr;exact ato rfl rfl rfl rfl
   refine rn tk 7 rfl ?_;cases hr;exact atc rfl rfl
  refine rn tk 2 rfl ?_;cases hr;exact ato rfl rfl rfl rfl
 .refine rn tk 7 rfl<|wn tk rfl rfl rfl<|rn tk 2 rfl<|wn tk rfl rfl rfl<|rn tk 3 rfl<|ac 72 hr rfl (fun c33 hr=>?_) (fun c33 hr=>?_)
  .refine rn tk 2 rfl ?_;obtain ⟨v34,h35,hr⟩:=zaa hr;refine cl (zka _ _ _ h35) rfl rfl<|rn tk 5 rfl ?_;cases hr;exact kr tk (.inr rfl) rfl rfl
  refine rn tk 7 rfl<|il (fn:=f72) (args:=[.l cI a0.Results,.fn (.func 87) [] []]) 100000 199999 [(2,.ptr 2 0)] rfl ⟨func72,rfl,by kernel_rfl⟩ rfl rfl rfl fun T1 ds1=>?_
  refine rn tk 9 rfl<|ct hr (fun j36=>[(7,.i j36)]) (fun j36=>[(199999,.sus g0.w.heap.size ds1),(100002,.hold (.ptr 2 0) (T1.getD 2 undef)),(2,.cells [.i 0,.i 0])]) (fun j36 hr jump2=>?_) (fun j36 hr=>?_)
  .refine il (fn:=f114) (args:=[.l cI a0.Results,.fn (.func 87) [] []]) 200000 299999 [] rfl ⟨func114,rfl,by kernel_rfl⟩ rfl rfl rfl fun T2 ds2=>?_
   refine rn tk 9 rfl<|wn tk rfl rfl rfl<|rn tk 4 rfl<|al2 hr (fun s37=>[(0,.l cI a0.Results),(1,.fn (.func 87) [] []),(7,.i ((a0.Results.length:Int))),(8,.i s37)]) (fun s37=>[(299999,.sus g0.w.heap.size ds2),(199999,.sus g0.w.heap.size ds1),(100002,.hold (.ptr 2 0) (T1.getD 2 undef)),(2,.cells [.i 0,.i 0])]) (.exit 0) (fun b38=>[]) (fun b38=>[(299999,.sus g0.w.heap.size ds2),(199999,.sus g0.w.heap.size ds1),(100002,.hold (.ptr 2 0) (T1.getD 2 undef)),(2,.cells [.i 0,.i 0])]) .ret (fun b39=>[(4,.i b39)]) (fun b39=>[(299999,.sus g0.w.heap.size ds2),(199999,.sus g0.w.heap.size ds1),(100002,.hold (.ptr 2 0) (T1.getD 2 undef)),(2,.cells [.i 0,.i 0])]) rfl rfl (fun s37 x41 hr=>?_) (fun b38 hr=>?_) (fun b39 hr=>?_)
   .unfold w8a at hr;refine rn tk 6 rfl<|ac 9 hr rfl (fun c42 hr=>?_) (fun c42 hr=>?_)
    .refine rn tk 15 rfl ?_;obtain ⟨v43,h44,hr⟩:=zaa hr;refine wi tk h44 rfl rfl rfl rfl rfl<|rn tk 1 rfl<|il (fn:=f87) (args:=[.i v43]) 400000 499999 [(0,.l cI a0.Results),(1,.fn (.func 87) [] []),(5,.i s37),(7,.i ((a0.Results.length:Int))),(8,.i s37)] rfl ⟨func87,rfl,by kernel_rfl⟩ rfl rfl rfl fun T4 ds4=>?_
     refine rn tk 5 rfl<|jb hr (fun j45=>[(2,.bo j45)]) (fun j45=>[(499999,.sus g0.w.heap.size ds4),(400000,.hold (.l cI a0.Results) (T4.getD 0 undef)),(400001,.hold (.fn (.func 87) [] []) (T4.getD 1 undef)),(400007,.hold (.i ((a0.Results.length:Int))) (T4.getD 7 undef)),(400008,.hold (.i s37) (T4.getD 8 undef)),(400005,.hold (.i s37) (T4.getD 5 undef)),(299999,.sus g0.w.heap.size ds2),(199999,.sus g0.w.heap.size ds1),(100002,.hold (.ptr 2 0) (T1.getD 2 undef)),(2,.cells [.i 0,.i 0])]) (fun j45 hr=>?_) (fun j45 hr=>?_)
     .refine rn tk 4 rfl<|bs 5 hr rfl (fun c46 hr=>?_) (fun c46 hr=>?_)
      .refine rn tk 5 rfl ?_;cases hr;exact jn _ rfl rfl rfl
      refine rn tk 5 rfl ?_;cases hr;exact jn _ rfl rfl rfl
     refine rn tk 1 rfl ?_;refine ie tk [.bo j45] [(0,.l cI a0.Results),(1,.fn (.func 87) [] []),(5,.i s37),(7,.i ((a0.Results.length:Int))),(8,.i s37)] [(299999,.sus g0.w.heap.size ds2),(199999,.sus g0.w.heap.size ds1),(100002,.hold (.ptr 2 0) (T1.getD 2 undef)),(2,.cells [.i 0,.i 0])] (.inr rfl) rfl rfl rfl rfl (hO ?_);refine rn tk 2 rfl<|ac 16 hr rfl (fun c47 hr=>?_) (fun c47 hr=>?_)
     .refine rn tk 9 rfl ?_;cases hr;exact ato rfl rfl rfl rfl
     refine rn tk 7 rfl ?_;cases hr;exact atc rfl rfl
    refine rn tk 2 rfl ?_;cases hr;exact ato rfl rfl rfl rfl
   .refine rn tk 8 rfl ?_;refine ie tk [.i ((-1))] [] [(199999,.sus g0.w.heap.size ds1),(100002,.hold (.ptr 2 0) (T1.getD 2 undef)),(2,.cells [.i 0,.i 0])] (.inr rfl) rfl rfl rfl rfl ?_;cases hr;exact jump2 _ _ rfl rfl
   refine rn tk 2 rfl ?_;refine ie tk [.i b39] [] [(199999,.sus g0.w.heap.size ds1),(100002,.hold (.ptr 2 0) (T1.getD 2 undef)),(2,.cells [.i 0,.i 0])] (.inr rfl) rfl rfl rfl rfl ?_;cases hr;exact jump2 _ _ rfl rfl
  refine rn tk 5 rfl ?_;refine ie tk [.bo (decide (0<=j36))] [(2,.ptr 2 0)] [(2,.cells [.i 0,.i 0])] (.inr rfl) rfl rfl rfl rfl (hO ?_);refine rn tk 2 rfl<|ac 76 hr rfl (fun c48 hr=>?_) (fun c48 hr=>?_)
  .refine rn tk 2 rfl ?_;obtain ⟨v49,h50,hr⟩:=zaa hr;refine cl (zka _ _ _ h50) rfl rfl<|rn tk 5 rfl ?_;cases hr;exact kr tk (.inr rfl) rfl rfl
  refine rn tk 4 rfl ?_;obtain ⟨v51,h52,hr⟩:=zaa hr;refine cl (z4a _ h52) rfl rfl<|rn tk 4 rfl ?_;cases hr;exact kr tk (.inr rfl) rfl rfl
 refine rn tk 2 rfl ?_;cases hr;exact kr tk (.inr rfl) rfl rfl
theorem WLa(a0:kia)(r:Bool)(hr:yPa a0=some r):Run prog 85 [.agg (zN2 a0)] (.bo r):=by
 unfold yPa at hr;refine rf (fn:=f85) ⟨func85,rfl,by kernel_rfl⟩ rfl (fun _=>rfl) fun g0 hg=>?_
 refine rn tk 6 rfl<|jb hr (fun j1=>[(2,.bo j1)]) (fun j1=>[]) (fun j1 hr=>?_) (fun j1 hr=>?_)
 .refine rn tk 6 rfl<|bs 7 hr rfl (fun c2 hr=>?_) (fun c2 hr=>?_)
  .refine rn tk 6 rfl<|bs 13 hr rfl (fun c3 hr=>?_) (fun c3 hr=>?_)
   .refine rn tk 3 rfl<|ug rfl rfl rfl<|wn tk rfl rfl rfl<|rn tk 3 rfl<|ug rfl rfl rfl<|wn tk rfl rfl rfl<|rn tk 4 rfl<|ug rfl rfl rfl<|wn tk rfl rfl rfl<|rn tk 5 rfl ?_;cases hr;exact jn _ rfl rfl rfl
   refine rn tk 18 rfl ?_;cases hr;exact jn _ rfl rfl rfl
  refine rn tk 24 rfl ?_;cases hr;exact jn _ rfl rfl rfl
 refine rn tk 1 rfl ?_;cases hr;exact kr tk (.inr rfl) rfl rfl
theorem WMa(a0:zha)(r:Bool)(hr:yQa a0=some r):Run prog 47 [.agg (zN1 a0)] (.bo r):=by
 unfold yQa at hr;refine rf (fn:=f47) ⟨func47,rfl,by kernel_rfl⟩ rfl (fun _=>rfl) fun g0 hg=>?_
 refine rn tk 14 rfl<|ac 6 hr rfl (fun c1 hr=>?_) (fun c1 hr=>?_)
 .refine rn tk 4 rfl ?_;obtain ⟨v2,h3,hr⟩:=zaa hr;refine cl (WLa _ _ h3) rfl rfl<|rn tk 5 rfl ?_;cases hr;exact kr tk (.inr rfl) rfl rfl
 refine rn tk 10 rfl<|jb hr (fun j4=>[(2,.bo j4)]) (fun j4=>[]) (fun j4 hr=>?_) (fun j4 hr=>?_)
 .refine rn tk 5 rfl<|bs 15 hr rfl (fun c5 hr=>?_) (fun c5 hr=>?_)
  .refine rn tk 5 rfl<|bs 20 hr rfl (fun c6 hr=>?_) (fun c6 hr=>?_)
   .refine rn tk 2 rfl<|ug rfl rfl rfl<|wn tk rfl rfl rfl<|rn tk 2 rfl<|ug rfl rfl rfl<|wn tk rfl rfl rfl<|rn tk 5 rfl ?_;cases hr;exact jn _ rfl rfl rfl
   refine rn tk 11 rfl ?_;cases hr;exact jn _ rfl rfl rfl
  refine rn tk 16 rfl ?_;cases hr;exact jn _ rfl rfl rfl
 refine rn tk 1 rfl ?_;cases hr;exact kr tk (.inr rfl) rfl rfl
theorem jKa(a0:zha)(r:zpa)(hr:waa a0=some r):Run prog 23 [.agg (zN1 a0)] (.agg [.i r.Code,.i r.Index]):=by
 unfold waa at hr;refine rf (fn:=f23) ⟨func23,rfl,by kernel_rfl⟩ rfl (fun _=>rfl) fun g0 hg=>?_
 refine rn tk 8 rfl<|jb hr (fun j1=>[(1,.ptr 1 0),(2,.ptr 2 0),(4,.bo j1)]) (fun j1=>[(2,.cells [.i 0,.i 0]),(1,.cells (zN1 a0))]) (fun j1 hr=>?_) (fun j1 hr=>?_)
 .refine rn tk 5 rfl<|bs 8 hr rfl (fun c2 hr=>?_) (fun c2 hr=>?_)
  .refine rn tk 6 rfl ?_;cases hr;exact jn _ rfl rfl rfl
  refine rn tk 6 rfl ?_;cases hr;exact jn _ rfl rfl rfl
 refine ac 4 hr rfl (fun c3 hr=>?_) (fun c3 hr=>?_)
 .refine rn tk 2 rfl ?_;obtain ⟨v4,h5,hr⟩:=zaa hr;refine cl (zka _ _ _ h5) rfl rfl<|rn tk 6 rfl ?_;cases hr;exact kr tk (.inr rfl) rfl rfl
 refine rn tk 4 rfl ?_;obtain ⟨v6,h7,hr⟩:=zaa hr;refine cl (vMa _ _ h7) rfl rfl<|rn tk 4 rfl<|ac 14 hr rfl (fun c8 hr=>?_) (fun c8 hr=>?_)
 .refine rn tk 2 rfl ?_;obtain ⟨v9,h10,hr⟩:=zaa hr;refine cl (zka _ _ _ h10) rfl rfl<|rn tk 6 rfl ?_;cases hr;exact kr tk (.inr rfl) rfl rfl
 refine rn tk 3 rfl ?_;obtain ⟨v11,h12,hr⟩:=zaa hr;refine cl (WMa _ _ h12) rfl rfl<|rn tk 4 rfl<|ac 20 hr rfl (fun c13 hr=>?_) (fun c13 hr=>?_)
 .refine rn tk 2 rfl ?_;obtain ⟨v14,h15,hr⟩:=zaa hr;refine cl (zka _ _ _ h15) rfl rfl<|rn tk 6 rfl ?_;cases hr;exact kr tk (.inr rfl) rfl rfl
 refine rn tk 8 rfl<|ac 25 hr rfl (fun c16 hr=>?_) (fun c16 hr=>?_)
 .refine rn tk 3 rfl ?_;obtain ⟨v17,h18,hr⟩:=zaa hr;refine cl (JAa _ _ h18) rfl rfl<|rn tk 6 rfl ?_;cases hr;exact kr tk (.inr rfl) rfl rfl
 refine rn tk 8 rfl ?_;obtain ⟨v19,h20,hr⟩:=zaa hr;refine cl (yha _ _ h20) rfl rfl<|rn tk 7 rfl ?_;obtain ⟨v21,h22,hr⟩:=zaa hr;refine cl (zTa _ _ h22) rfl rfl<|rn tk 2 rfl<|ac 35 hr rfl (fun c23 hr=>?_) (fun c23 hr=>?_)
 .refine rn tk 4 rfl ?_;obtain ⟨v24,h25,hr⟩:=zaa hr;refine cl (zka _ _ _ h25) rfl rfl<|rn tk 5 rfl ?_;cases hr;exact kr tk (.inr rfl) rfl rfl
 refine rn tk 4 rfl ?_;obtain ⟨v26,h27,hr⟩:=zaa hr;refine cl (z4a _ h27) rfl rfl<|rn tk 4 rfl ?_;cases hr;exact kr tk (.inr rfl) rfl rfl
theorem zUa(a0:zla)(a1:Int)(r:zla)(hr:zMa a0 a1=some r):RunS prog 53 [.ptr 90004000 0,.i a1] [(90004000,.cells [.hs 90004001 0]),(90004001,.row 5 false 1 (List.map cU a0.out))] (.tup []) [(90004000,.cells [.hs 90004001 0]),(90004001,.row 5 false 1 (List.map cU r.out))] 90004000 [90004001]:=by
 unfold zMa at hr;refine rfS (fn:=f53) (H:=90004999) (.ptr 90004000 0) ⟨func53,rfl,by kernel_rfl⟩ rfl (hasT rfl) (.inl ⟨rfl,rfl⟩) rfl rfl rfl rfl fun g0 hg S sg T=>?_
 refine rn tk 6 rfl<|al1 hr (fun s1=>[(0,.ptr 90004000 0),(1,.i a1),(5,.i s1.1)]) (fun s1=>[(90004999,.hold (.ptr 90004000 0) (T.getD 0 undef)),(90004000,.cells [.hs 90004001 0]),(90004001,.row 5 false 1 (List.map cU s1.2.out))]) (.exit 0) (fun b2=>[]) (fun b2=>[(90004000,.cells [.hs 90004001 0]),(90004001,.row 5 false 1 (List.map cU b2.out)),(90004999,.hold (.ptr 90004000 0) (T.getD 0 undef))]) rfl rfl (fun s1 x3 hr=>?_) (fun b2 hr=>?_)
 .unfold kfa at hr;refine rn tk 6 rfl<|ac 6 hr rfl (fun c4 hr=>?_) (fun c4 hr=>?_)
  .refine rn tk 10 rfl ?_;obtain ⟨v5,h6,hr⟩:=zaa hr;obtain ⟨v7,h8,hr⟩:=zaa hr;refine mz [some (.ptr 90004000 0),some (.ptr 90004000 0),some (.ptr 90004000 0),some (.ptr 90004000 0),none,some (.i a1),some (.pv (.b (.int .u64 ((wu64 a1))))),some (.i s1.1),some (.i ((w64 (8 * s1.1)))),some (.pv (.b (.int .u64 ((uShr ((wu64 a1)) ((w64 (8 * s1.1)))))))),some (.u8 ((toU8 ((uShr ((wu64 a1)) ((w64 (8 * s1.1)))))))),some (.l cU (([(toU8 ((uShr ((wu64 a1)) ((w64 (8 * s1.1))))))]:List UInt8))),none,some (.ptr 90004000 0),some (.ptr 90004000 0),none] (fun f s=>[((bt 16 0),f,s),((bt 16 16),((12,.hs 90004001 0)::f),s),((bt 16 4112),((20,.hs 90004001 0)::(Fr.clrs [90004001] ((12,.hs 90004001 0)::f))),(Sto.upd (Sto.clr 90004001 s) 90004001 (.row 5 false 1 (List.map cU v7)))),((bt 16 36880),((20,.hs 90004001 0)::(Fr.clrs [90004001] ((12,.hs 90004001 0)::f))),(Sto.upd (Sto.upd (Sto.clr 90004001 s) 90004001 (.row 5 false 1 (List.map cU v7))) 90004000 (.cells [.hs 90004001 0])))]) mixed (by kernel_rfl) (.cons (mn tk [4,6,9,10,11] (by kernel_rfl) (.cons (mdt 1 rfl (hv_g rfl rfl (mqz tk rfl)) (by kernel_rfl)) (.cons (.pure rfl rfl (zua (jua rfl zVa kKa))) (.cons (.pure rfl rfl (zua (V0a rfl rfl (yva h6)))) (.cons (.pure rfl rfl (zua (K8a rfl kKa zRa))) (.cons (.pure rfl rfl (v0a (F:=cU) (l:=([(toU8 ((uShr ((wu64 a1)) ((w64 (8 * s1.1))))))]:List UInt8)) zqa zRa rfl (fun _=>rfl) rfl rfl)) .nil)))))) (.cons (mn tk [6,9,10,11,12] (by kernel_rfl) (.cons (.pure rfl rfl (zua (jua rfl zVa kKa))) (.cons (.pure rfl rfl (zua (V0a rfl rfl (yva h6)))) (.cons (.pure rfl rfl (zua (K8a rfl kKa zRa))) (.cons (.pure rfl rfl (v0a (F:=cU) (l:=([(toU8 ((uShr ((wu64 a1)) ((w64 (8 * s1.1))))))]:List UInt8)) zqa zRa rfl (fun _=>rfl) rfl rfl)) (.cons (mdt 2 rfl (Yoa (F:=cU) (l:=s1.2.out) (xs:=(([(toU8 ((uShr ((wu64 a1)) ((w64 (8 * s1.1))))))]:List UInt8))) (lim:=140737488355328) rfl rfl rfl rfl zqa zRa rfl rfl (fun _=>rfl) rfl h8) (by kernel_rfl)) .nil)))))) (.cons (mn tk [15] (by kernel_rfl) (.cons (mst 3 rfl (jSa rfl rfl rfl zqa rfl rfl) (by kernel_rfl)) .nil)) (.cons (mf tk [] [(0,.ptr 90004000 0),(1,.i a1),(5,.i s1.1)] (by kernel_rfl) .nil (fc rfl (fc rfl (fc rfl fn))) (hA ?_)) .nil))));refine rn tk 6 rfl ?_;cases hr;exact atc rfl rfl
  refine rn tk 2 rfl ?_;cases hr;exact ato rfl rfl rfl rfl
 refine rn tk 1 rfl ?_;cases hr;exact krS tk (.inl rfl) rfl rfl (zda rfl (zda rfl (zda rfl zoa)))
theorem kma(a0:zla)(a1:Str)(r:zla)(hr:z8a a0 a1=some r):RunS prog 52 [.ptr 90004000 0,.s a1] [(90004000,.cells [.hs 90004001 0]),(90004001,.row 5 false 1 (List.map cU a0.out))] (.tup []) [(90004000,.cells [.hs 90004001 0]),(90004001,.row 5 false 1 (List.map cU r.out))] 90004000 [90004001]:=by
 unfold z8a at hr;refine rfS (fn:=f52) (H:=90004999) (.ptr 90004000 0) ⟨func52,rfl,by kernel_rfl⟩ rfl (hasT rfl) (.inl ⟨rfl,rfl⟩) rfl rfl rfl rfl fun g0 hg S sg T=>?_
 refine rn tk 5 rfl ?_;obtain ⟨v1,h2,hr⟩:=zaa hr;refine wo (zXa (k:=7) (zUa a0 ((a1.length:Int)) v1 h2) rfl rfl (zda rfl (zda rfl zoa))) rfl<|rn tk 9 rfl ?_;obtain ⟨v3,h4,hr⟩:=zaa hr;refine wo (Koa (k:=14) (l:=v1.out) (s:=a1) (lim:=140737488355328) rfl rfl rfl rfl zqa kaa.u zRa rfl h4) rfl<|rn tk 4 rfl ?_;cases hr;exact krS tk (.inl rfl) rfl rfl (zda rfl (zda rfl (zda rfl zoa)))
theorem JBa(a0:zha)(r:List UInt8)(hr:Zya a0=some r):Run prog 51 [.agg (zN1 a0)] (.l cU r):=by
 unfold Zya at hr;refine rf (fn:=f51) ⟨func51,rfl,by kernel_rfl⟩ rfl (fun _=>rfl) fun g0 hg=>?_
 refine rn tk 9 rfl<|wo (K3a (k:=6) 90004000 rfl rfl rfl rfl rfl) rfl<|rn tk 2 rfl ?_;refine jqa 90004001 (o:=90004000) (j:=0) 5 1 rfl rfl rfl rfl (hO ?_);refine rn tk 7 rfl ?_;obtain ⟨v1,h2,hr⟩:=zaa hr;refine wo (zXa (k:=10) (zUa ((zla.mk (([]:List UInt8)))) a0.Kind v1 h2) rfl rfl (zda rfl (zda rfl zoa))) rfl<|rn tk 7 rfl ?_;obtain ⟨v3,h4,hr⟩:=zaa hr;refine wo (zXa (k:=14) (zUa v1 a0.Now v3 h4) rfl rfl (zda rfl (zda rfl zoa))) rfl<|rn tk 10 rfl<|ac 17 hr rfl (fun c5 hr=>?_) (fun c5 hr=>?_)
 .refine rn tk 14 rfl ?_;obtain ⟨v6,h7,hr⟩:=zaa hr;refine wo (zXa (k:=24) (kma v3 a0.Mail.Envelope.From v6 h7) rfl rfl (zda rfl (zda rfl zoa))) rfl<|rn tk 8 rfl<|il (fn:=f90) (args:=[.ptr 90004000 0,.l zca.pc a0.Mail.Envelope.To,.fn (.func 91) [] [.ptr 3 0]]) 100000 199999 [(1,.ptr 1 0),(3,.ptr 3 0),(4,.ptr 4 0)] rfl ⟨func90,rfl,by kernel_rfl⟩ rfl rfl rfl fun T1 ds1=>?_
  refine rn tk 4 rfl<|wn tk rfl rfl rfl ?_;obtain ⟨v8,h9,hr⟩:=zaa hr;refine wo (zXa (k:=11) (zUa v6 ((a0.Mail.Envelope.To.length:Int)) v8 h9) rfl rfl (zda rfl (zda rfl zoa))) rfl<|rn tk 5 rfl<|wn tk rfl rfl rfl<|rn tk 4 rfl<|al1 hr (fun s10=>[(2,.fn (.func 91) [] [.ptr 3 0]),(12,.l zca.pc a0.Mail.Envelope.To),(13,.i ((a0.Mail.Envelope.To.length:Int))),(14,.i s10.1)]) (fun s10=>[(90004000,.cells [.hs 90004001 0]),(90004001,.row 5 false 1 (List.map cU s10.2.out)),(199999,.sus g0.w.heap.size ds1),(100001,.hold (.ptr 1 0) (T1.getD 1 undef)),(100003,.hold (.ptr 3 0) (T1.getD 3 undef)),(100004,.hold (.ptr 4 0) (T1.getD 4 undef)),(4,.cells (zN4 a0.Mail.Envelope)),(3,.cells [.ptr 90004000 0]),(1,.cells (zN1 a0))]) (.exit 0) (fun b11=>[]) (fun b11=>[(90004000,.cells [.hs 90004001 0]),(90004001,.row 5 false 1 (List.map cU b11.out)),(199999,.sus g0.w.heap.size ds1),(100001,.hold (.ptr 1 0) (T1.getD 1 undef)),(100003,.hold (.ptr 3 0) (T1.getD 3 undef)),(100004,.hold (.ptr 4 0) (T1.getD 4 undef)),(4,.cells (zN4 a0.Mail.Envelope)),(3,.cells [.ptr 90004000 0]),(1,.cells (zN1 a0))]) rfl rfl (fun s10 x12 hr=>?_) (fun b11 hr=>?_)
  .unfold w9a at hr;refine rn tk 6 rfl<|ac 15 hr rfl (fun c13 hr=>?_) (fun c13 hr=>?_)
   .refine rn tk 6 rfl ?_;obtain ⟨v14,h15,hr⟩:=zaa hr;refine wi tk h15 rfl rfl rfl rfl rfl<|rn tk 8 rfl<|il (fn:=f91) (args:=[.agg [.s v14.Address,.i v14.Notify],.ptr 3 0]) 400000 499999 [(2,.fn (.func 91) [] [.ptr 3 0]),(12,.l zca.pc a0.Mail.Envelope.To),(13,.i ((a0.Mail.Envelope.To.length:Int))),(14,.i s10.1)] rfl ⟨func91,rfl,by kernel_rfl⟩ rfl rfl rfl fun T4 ds4=>?_
    refine rn tk 10 rfl ?_;obtain ⟨v16,h17,hr⟩:=zaa hr;refine wo (zXa (k:=6) (kma s10.2 v14.Address v16 h17) rfl rfl (zda rfl (zda rfl zoa))) rfl<|rn tk 6 rfl ?_;obtain ⟨v18,h19,hr⟩:=zaa hr;refine wo (zXa (k:=10) (zUa v16 v14.Notify v18 h19) rfl rfl (zda rfl (zda rfl zoa))) rfl<|rn tk 1 rfl ?_;refine ie tk [] [(2,.fn (.func 91) [] [.ptr 3 0]),(12,.l zca.pc a0.Mail.Envelope.To),(13,.i ((a0.Mail.Envelope.To.length:Int))),(14,.i s10.1)] [(90004000,.cells [.hs 90004001 0]),(90004001,.row 5 false 1 (List.map cU v18.out)),(2,.cells [.s v14.Address,.i v14.Notify]),(7,.cells [.s v14.Address,.i v14.Notify]),(199999,.sus g0.w.heap.size ds1),(100001,.hold (.ptr 1 0) (T1.getD 1 undef)),(100003,.hold (.ptr 3 0) (T1.getD 3 undef)),(100004,.hold (.ptr 4 0) (T1.getD 4 undef)),(4,.cells (zN4 a0.Mail.Envelope)),(3,.cells [.ptr 90004000 0]),(1,.cells (zN1 a0))] (.inl rfl) rfl rfl rfl rfl (hO ?_);refine rn tk 7 rfl ?_;cases hr;exact atc rfl rfl
   refine rn tk 2 rfl ?_;cases hr;exact ato rfl rfl rfl rfl
  refine rn tk 1 rfl ?_;refine ie tk [] [(1,.ptr 1 0),(3,.ptr 3 0),(4,.ptr 4 0)] [(90004000,.cells [.hs 90004001 0]),(90004001,.row 5 false 1 (List.map cU b11.out)),(4,.cells (zN4 a0.Mail.Envelope)),(3,.cells [.ptr 90004000 0]),(1,.cells (zN1 a0))] (.inl rfl) rfl rfl rfl rfl (hO ?_);refine rn tk 7 rfl ?_;obtain ⟨v20,h21,hr⟩:=zaa hr;refine wo (zXa (k:=33) (kma b11 a0.Mail.Envelope.Id v20 h21) rfl rfl (zda rfl (zda rfl zoa))) rfl<|rn tk 10 rfl<|il (fn:=f92) (args:=[.ptr 90004000 0,.l zja.pc a0.Mail.Message.Fields,.fn (.func 93) [] [.ptr 3 0]]) 500000 599999 [(1,.ptr 1 0),(3,.ptr 3 0)] rfl ⟨func92,rfl,by kernel_rfl⟩ rfl rfl rfl fun T5 ds5=>?_
  refine rn tk 4 rfl<|wn tk rfl rfl rfl ?_;obtain ⟨v22,h23,hr⟩:=zaa hr;refine wo (zXa (k:=11) (zUa v20 ((a0.Mail.Message.Fields.length:Int)) v22 h23) rfl rfl (zda rfl (zda rfl zoa))) rfl<|rn tk 5 rfl<|wn tk rfl rfl rfl<|rn tk 4 rfl<|al1 hr (fun s24=>[(2,.fn (.func 93) [] [.ptr 3 0]),(12,.l zja.pc a0.Mail.Message.Fields),(13,.i ((a0.Mail.Message.Fields.length:Int))),(14,.i s24.1)]) (fun s24=>[(90004000,.cells [.hs 90004001 0]),(90004001,.row 5 false 1 (List.map cU s24.2.out)),(599999,.sus g0.w.heap.size ds5),(500001,.hold (.ptr 1 0) (T5.getD 1 undef)),(500003,.hold (.ptr 3 0) (T5.getD 3 undef)),(3,.cells [.ptr 90004000 0]),(1,.cells (zN1 a0))]) (.exit 0) (fun b25=>[]) (fun b25=>[(90004000,.cells [.hs 90004001 0]),(90004001,.row 5 false 1 (List.map cU b25.out)),(599999,.sus g0.w.heap.size ds5),(500001,.hold (.ptr 1 0) (T5.getD 1 undef)),(500003,.hold (.ptr 3 0) (T5.getD 3 undef)),(3,.cells [.ptr 90004000 0]),(1,.cells (zN1 a0))]) rfl rfl (fun s24 x26 hr=>?_) (fun b25 hr=>?_)
  .unfold yaa at hr;refine rn tk 6 rfl<|ac 15 hr rfl (fun c27 hr=>?_) (fun c27 hr=>?_)
   .refine rn tk 6 rfl ?_;obtain ⟨v28,h29,hr⟩:=zaa hr;refine wi tk h29 rfl rfl rfl rfl rfl<|rn tk 8 rfl<|il (fn:=f93) (args:=[.agg [.s v28.Name,.s v28.Value],.ptr 3 0]) 800000 899999 [(2,.fn (.func 93) [] [.ptr 3 0]),(12,.l zja.pc a0.Mail.Message.Fields),(13,.i ((a0.Mail.Message.Fields.length:Int))),(14,.i s24.1)] rfl ⟨func93,rfl,by kernel_rfl⟩ rfl rfl rfl fun T8 ds8=>?_
    refine rn tk 10 rfl ?_;obtain ⟨v30,h31,hr⟩:=zaa hr;refine wo (zXa (k:=6) (kma s24.2 v28.Name v30 h31) rfl rfl (zda rfl (zda rfl zoa))) rfl<|rn tk 6 rfl ?_;obtain ⟨v32,h33,hr⟩:=zaa hr;refine wo (zXa (k:=10) (kma v30 v28.Value v32 h33) rfl rfl (zda rfl (zda rfl zoa))) rfl<|rn tk 1 rfl ?_;refine ie tk [] [(2,.fn (.func 93) [] [.ptr 3 0]),(12,.l zja.pc a0.Mail.Message.Fields),(13,.i ((a0.Mail.Message.Fields.length:Int))),(14,.i s24.1)] [(90004000,.cells [.hs 90004001 0]),(90004001,.row 5 false 1 (List.map cU v32.out)),(2,.cells [.s v28.Name,.s v28.Value]),(7,.cells [.s v28.Name,.s v28.Value]),(599999,.sus g0.w.heap.size ds5),(500001,.hold (.ptr 1 0) (T5.getD 1 undef)),(500003,.hold (.ptr 3 0) (T5.getD 3 undef)),(3,.cells [.ptr 90004000 0]),(1,.cells (zN1 a0))] (.inl rfl) rfl rfl rfl rfl (hO ?_);refine rn tk 7 rfl ?_;cases hr;exact atc rfl rfl
   refine rn tk 2 rfl ?_;cases hr;exact ato rfl rfl rfl rfl
  refine rn tk 1 rfl ?_;refine ie tk [] [(1,.ptr 1 0),(3,.ptr 3 0)] [(90004000,.cells [.hs 90004001 0]),(90004001,.row 5 false 1 (List.map cU b25.out)),(3,.cells [.ptr 90004000 0]),(1,.cells (zN1 a0))] (.inl rfl) rfl rfl rfl rfl (hO ?_);refine rn tk 9 rfl<|wb tk rfl rfl rfl ?_;obtain ⟨v34,h35,hr⟩:=zaa hr;refine wo (zXa (k:=47) (kma b25 a0.Mail.Message.Body v34 h35) rfl rfl (zda rfl (zda rfl zoa))) rfl<|rn tk 11 rfl ?_;refine vNa (d:=2) (F:=cU) (l:=v34.out) rfl rfl (hC ?_);refine rn tk 2 rfl ?_;cases hr;exact kr tk (.inr rfl) rfl rfl
 refine rn tk 8 rfl ?_;obtain ⟨v36,h37,hr⟩:=zaa hr;refine wo (zXa (k:=56) (zUa v3 a0.Attempt.Entry v36 h37) rfl rfl (zda rfl (zda rfl zoa))) rfl<|rn tk 8 rfl ?_;obtain ⟨v38,h39,hr⟩:=zaa hr;refine wo (zXa (k:=61) (kma v36 a0.Attempt.Domain v38 h39) rfl rfl (zda rfl (zda rfl zoa))) rfl<|rn tk 10 rfl<|il (fn:=f94) (args:=[.ptr 90004000 0,.l cI a0.Attempt.To,.fn (.func 53) [.ptr 90004000 0] []]) 900000 999999 [(1,.ptr 1 0),(3,.ptr 3 0)] rfl ⟨func94,rfl,by kernel_rfl⟩ rfl rfl rfl fun T9 ds9=>?_
 refine rn tk 4 rfl<|wn tk rfl rfl rfl ?_;obtain ⟨v40,h41,hr⟩:=zaa hr;refine wo (zXa (k:=11) (zUa v38 ((a0.Attempt.To.length:Int)) v40 h41) rfl rfl (zda rfl (zda rfl zoa))) rfl<|rn tk 5 rfl<|wn tk rfl rfl rfl<|rn tk 4 rfl<|al1 hr (fun s42=>[(2,.fn (.func 53) [.ptr 90004000 0] []),(12,.l cI a0.Attempt.To),(13,.i ((a0.Attempt.To.length:Int))),(14,.i s42.1)]) (fun s42=>[(90004000,.cells [.hs 90004001 0]),(90004001,.row 5 false 1 (List.map cU s42.2.out)),(999999,.sus g0.w.heap.size ds9),(900001,.hold (.ptr 1 0) (T9.getD 1 undef)),(900003,.hold (.ptr 3 0) (T9.getD 3 undef)),(3,.cells [.ptr 90004000 0]),(1,.cells (zN1 a0))]) (.exit 0) (fun b43=>[]) (fun b43=>[(90004000,.cells [.hs 90004001 0]),(90004001,.row 5 false 1 (List.map cU b43.out)),(999999,.sus g0.w.heap.size ds9),(900001,.hold (.ptr 1 0) (T9.getD 1 undef)),(900003,.hold (.ptr 3 0) (T9.getD 3 undef)),(3,.cells [.ptr 90004000 0]),(1,.cells (zN1 a0))]) rfl rfl (fun s42 x44 hr=>?_) (fun b43 hr=>?_)
 .unfold yba at hr;refine rn tk 6 rfl<|ac 15 hr rfl (fun c45 hr=>?_) (fun c45 hr=>?_)
  .refine rn tk 6 rfl ?_;obtain ⟨v46,h47,hr⟩:=zaa hr;refine wi tk h47 rfl rfl rfl rfl rfl<|rn tk 7 rfl<|il (fn:=f53) (args:=[.ptr 90004000 0,.i v46]) 1200000 1299999 [(2,.fn (.func 53) [.ptr 90004000 0] []),(12,.l cI a0.Attempt.To),(13,.i ((a0.Attempt.To.length:Int))),(14,.i s42.1)] rfl ⟨func53,rfl,by kernel_rfl⟩ rfl rfl rfl fun T12 ds12=>?_
   refine rn tk 6 rfl<|al1 hr (fun s48=>[(0,.ptr 90004000 0),(1,.i v46),(5,.i s48.1)]) (fun s48=>[(1299999,.sus g0.w.heap.size ds12),(1200002,.hold (.fn (.func 53) [.ptr 90004000 0] []) (T12.getD 2 undef)),(1200012,.hold (.l cI a0.Attempt.To) (T12.getD 12 undef)),(1200013,.hold (.i ((a0.Attempt.To.length:Int))) (T12.getD 13 undef)),(1200014,.hold (.i s42.1) (T12.getD 14 undef)),(90004000,.cells [.hs 90004001 0]),(90004001,.row 5 false 1 (List.map cU s48.2.out)),(999999,.sus g0.w.heap.size ds9),(900001,.hold (.ptr 1 0) (T9.getD 1 undef)),(900003,.hold (.ptr 3 0) (T9.getD 3 undef)),(3,.cells [.ptr 90004000 0]),(1,.cells (zN1 a0))]) (.exit 0) (fun b49=>[]) (fun b49=>[(90004000,.cells [.hs 90004001 0]),(90004001,.row 5 false 1 (List.map cU b49.out)),(1299999,.sus g0.w.heap.size ds12),(1200002,.hold (.fn (.func 53) [.ptr 90004000 0] []) (T12.getD 2 undef)),(1200012,.hold (.l cI a0.Attempt.To) (T12.getD 12 undef)),(1200013,.hold (.i ((a0.Attempt.To.length:Int))) (T12.getD 13 undef)),(1200014,.hold (.i s42.1) (T12.getD 14 undef)),(999999,.sus g0.w.heap.size ds9),(900001,.hold (.ptr 1 0) (T9.getD 1 undef)),(900003,.hold (.ptr 3 0) (T9.getD 3 undef)),(3,.cells [.ptr 90004000 0]),(1,.cells (zN1 a0))]) rfl rfl (fun s48 x50 hr=>?_) (fun b49 hr=>?_)
   .unfold ZVa at hr;refine rn tk 6 rfl<|ac 6 hr rfl (fun c51 hr=>?_) (fun c51 hr=>?_)
    .refine rn tk 10 rfl ?_;obtain ⟨v52,h53,hr⟩:=zaa hr;obtain ⟨v54,h55,hr⟩:=zaa hr;refine mz [some (.ptr 90004000 0),some (.ptr 90004000 0),some (.ptr 90004000 0),some (.ptr 90004000 0),none,some (.i v46),some (.pv (.b (.int .u64 ((wu64 v46))))),some (.i s48.1),some (.i ((w64 (8 * s48.1)))),some (.pv (.b (.int .u64 ((uShr ((wu64 v46)) ((w64 (8 * s48.1)))))))),some (.u8 ((toU8 ((uShr ((wu64 v46)) ((w64 (8 * s48.1)))))))),some (.l cU (([(toU8 ((uShr ((wu64 v46)) ((w64 (8 * s48.1))))))]:List UInt8))),none,some (.ptr 90004000 0),some (.ptr 90004000 0),none] (fun f s=>[((bt 16 0),f,s),((bt 16 16),((12,.hs 90004001 0)::f),s),((bt 16 4112),((20,.hs 90004001 0)::(Fr.clrs [90004001] ((12,.hs 90004001 0)::f))),(Sto.upd (Sto.clr 90004001 s) 90004001 (.row 5 false 1 (List.map cU v54)))),((bt 16 36880),((20,.hs 90004001 0)::(Fr.clrs [90004001] ((12,.hs 90004001 0)::f))),(Sto.upd (Sto.upd (Sto.clr 90004001 s) 90004001 (.row 5 false 1 (List.map cU v54))) 90004000 (.cells [.hs 90004001 0])))]) mixed (by kernel_rfl) (.cons (mn tk [4,6,9,10,11] (by kernel_rfl) (.cons (mdt 1 rfl (hv_g rfl rfl (mqz tk rfl)) (by kernel_rfl)) (.cons (.pure rfl rfl (zua (jua rfl zVa kKa))) (.cons (.pure rfl rfl (zua (V0a rfl rfl (yva h53)))) (.cons (.pure rfl rfl (zua (K8a rfl kKa zRa))) (.cons (.pure rfl rfl (v0a (F:=cU) (l:=([(toU8 ((uShr ((wu64 v46)) ((w64 (8 * s48.1))))))]:List UInt8)) zqa zRa rfl (fun _=>rfl) rfl rfl)) .nil)))))) (.cons (mn tk [6,9,10,11,12] (by kernel_rfl) (.cons (.pure rfl rfl (zua (jua rfl zVa kKa))) (.cons (.pure rfl rfl (zua (V0a rfl rfl (yva h53)))) (.cons (.pure rfl rfl (zua (K8a rfl kKa zRa))) (.cons (.pure rfl rfl (v0a (F:=cU) (l:=([(toU8 ((uShr ((wu64 v46)) ((w64 (8 * s48.1))))))]:List UInt8)) zqa zRa rfl (fun _=>rfl) rfl rfl)) (.cons (mdt 2 rfl (Yoa (F:=cU) (l:=s48.2.out) (xs:=(([(toU8 ((uShr ((wu64 v46)) ((w64 (8 * s48.1))))))]:List UInt8))) (lim:=140737488355328) rfl rfl rfl rfl zqa zRa rfl rfl (fun _=>rfl) rfl h55) (by kernel_rfl)) .nil)))))) (.cons (mn tk [15] (by kernel_rfl) (.cons (mst 3 rfl (jSa rfl rfl rfl zqa rfl rfl) (by kernel_rfl)) .nil)) (.cons (mf tk [] [(0,.ptr 90004000 0),(1,.i v46),(5,.i s48.1)] (by kernel_rfl) .nil (fc rfl (fc rfl (fc rfl fn))) (hA ?_)) .nil))));refine rn tk 6 rfl ?_;cases hr;exact atc rfl rfl
    refine rn tk 2 rfl ?_;cases hr;exact ato rfl rfl rfl rfl
   refine rn tk 1 rfl ?_;refine ie tk [] [(2,.fn (.func 53) [.ptr 90004000 0] []),(12,.l cI a0.Attempt.To),(13,.i ((a0.Attempt.To.length:Int))),(14,.i s42.1)] [(90004000,.cells [.hs 90004001 0]),(90004001,.row 5 false 1 (List.map cU b49.out)),(999999,.sus g0.w.heap.size ds9),(900001,.hold (.ptr 1 0) (T9.getD 1 undef)),(900003,.hold (.ptr 3 0) (T9.getD 3 undef)),(3,.cells [.ptr 90004000 0]),(1,.cells (zN1 a0))] (.inl rfl) rfl rfl rfl rfl (hO ?_);refine rn tk 7 rfl ?_;cases hr;exact atc rfl rfl
  refine rn tk 2 rfl ?_;cases hr;exact ato rfl rfl rfl rfl
 refine rn tk 1 rfl ?_;refine ie tk [] [(1,.ptr 1 0),(3,.ptr 3 0)] [(90004000,.cells [.hs 90004001 0]),(90004001,.row 5 false 1 (List.map cU b43.out)),(3,.cells [.ptr 90004000 0]),(1,.cells (zN1 a0))] (.inl rfl) rfl rfl rfl rfl (hO ?_);refine rn tk 9 rfl<|il (fn:=f94) (args:=[.ptr 90004000 0,.l cI a0.Results,.fn (.func 53) [.ptr 90004000 0] []]) 1300000 1399999 [(3,.ptr 3 0)] rfl ⟨func94,rfl,by kernel_rfl⟩ rfl rfl rfl fun T13 ds13=>?_
 refine rn tk 4 rfl<|wn tk rfl rfl rfl ?_;obtain ⟨v56,h57,hr⟩:=zaa hr;refine wo (zXa (k:=11) (zUa b43 ((a0.Results.length:Int)) v56 h57) rfl rfl (zda rfl (zda rfl zoa))) rfl<|rn tk 5 rfl<|wn tk rfl rfl rfl<|rn tk 4 rfl<|al1 hr (fun s58=>[(2,.fn (.func 53) [.ptr 90004000 0] []),(12,.l cI a0.Results),(13,.i ((a0.Results.length:Int))),(14,.i s58.1)]) (fun s58=>[(90004000,.cells [.hs 90004001 0]),(90004001,.row 5 false 1 (List.map cU s58.2.out)),(1399999,.sus g0.w.heap.size ds13),(1300003,.hold (.ptr 3 0) (T13.getD 3 undef)),(3,.cells [.ptr 90004000 0])]) (.exit 0) (fun b59=>[]) (fun b59=>[(90004000,.cells [.hs 90004001 0]),(90004001,.row 5 false 1 (List.map cU b59.out)),(1399999,.sus g0.w.heap.size ds13),(1300003,.hold (.ptr 3 0) (T13.getD 3 undef)),(3,.cells [.ptr 90004000 0])]) rfl rfl (fun s58 x60 hr=>?_) (fun b59 hr=>?_)
 .unfold yca at hr;refine rn tk 6 rfl<|ac 15 hr rfl (fun c61 hr=>?_) (fun c61 hr=>?_)
  .refine rn tk 6 rfl ?_;obtain ⟨v62,h63,hr⟩:=zaa hr;refine wi tk h63 rfl rfl rfl rfl rfl<|rn tk 7 rfl<|il (fn:=f53) (args:=[.ptr 90004000 0,.i v62]) 1600000 1699999 [(2,.fn (.func 53) [.ptr 90004000 0] []),(12,.l cI a0.Results),(13,.i ((a0.Results.length:Int))),(14,.i s58.1)] rfl ⟨func53,rfl,by kernel_rfl⟩ rfl rfl rfl fun T16 ds16=>?_
   refine rn tk 6 rfl<|al1 hr (fun s64=>[(0,.ptr 90004000 0),(1,.i v62),(5,.i s64.1)]) (fun s64=>[(1699999,.sus g0.w.heap.size ds16),(1600002,.hold (.fn (.func 53) [.ptr 90004000 0] []) (T16.getD 2 undef)),(1600012,.hold (.l cI a0.Results) (T16.getD 12 undef)),(1600013,.hold (.i ((a0.Results.length:Int))) (T16.getD 13 undef)),(1600014,.hold (.i s58.1) (T16.getD 14 undef)),(90004000,.cells [.hs 90004001 0]),(90004001,.row 5 false 1 (List.map cU s64.2.out)),(1399999,.sus g0.w.heap.size ds13),(1300003,.hold (.ptr 3 0) (T13.getD 3 undef)),(3,.cells [.ptr 90004000 0])]) (.exit 0) (fun b65=>[]) (fun b65=>[(90004000,.cells [.hs 90004001 0]),(90004001,.row 5 false 1 (List.map cU b65.out)),(1699999,.sus g0.w.heap.size ds16),(1600002,.hold (.fn (.func 53) [.ptr 90004000 0] []) (T16.getD 2 undef)),(1600012,.hold (.l cI a0.Results) (T16.getD 12 undef)),(1600013,.hold (.i ((a0.Results.length:Int))) (T16.getD 13 undef)),(1600014,.hold (.i s58.1) (T16.getD 14 undef)),(1399999,.sus g0.w.heap.size ds13),(1300003,.hold (.ptr 3 0) (T13.getD 3 undef)),(3,.cells [.ptr 90004000 0])]) rfl rfl (fun s64 x66 hr=>?_) (fun b65 hr=>?_)
   .unfold ZWa at hr;refine rn tk 6 rfl<|ac 6 hr rfl (fun c67 hr=>?_) (fun c67 hr=>?_)
    .refine rn tk 10 rfl ?_;obtain ⟨v68,h69,hr⟩:=zaa hr;obtain ⟨v70,h71,hr⟩:=zaa hr;refine mz [some (.ptr 90004000 0),some (.ptr 90004000 0),some (.ptr 90004000 0),some (.ptr 90004000 0),none,some (.i v62),some (.pv (.b (.int .u64 ((wu64 v62))))),some (.i s64.1),some (.i ((w64 (8 * s64.1)))),some (.pv (.b (.int .u64 ((uShr ((wu64 v62)) ((w64 (8 * s64.1)))))))),some (.u8 ((toU8 ((uShr ((wu64 v62)) ((w64 (8 * s64.1)))))))),some (.l cU (([(toU8 ((uShr ((wu64 v62)) ((w64 (8 * s64.1))))))]:List UInt8))),none,some (.ptr 90004000 0),some (.ptr 90004000 0),none] (fun f s=>[((bt 16 0),f,s),((bt 16 16),((12,.hs 90004001 0)::f),s),((bt 16 4112),((20,.hs 90004001 0)::(Fr.clrs [90004001] ((12,.hs 90004001 0)::f))),(Sto.upd (Sto.clr 90004001 s) 90004001 (.row 5 false 1 (List.map cU v70)))),((bt 16 36880),((20,.hs 90004001 0)::(Fr.clrs [90004001] ((12,.hs 90004001 0)::f))),(Sto.upd (Sto.upd (Sto.clr 90004001 s) 90004001 (.row 5 false 1 (List.map cU v70))) 90004000 (.cells [.hs 90004001 0])))]) mixed (by kernel_rfl) (.cons (mn tk [4,6,9,10,11] (by kernel_rfl) (.cons (mdt 1 rfl (hv_g rfl rfl (mqz tk rfl)) (by kernel_rfl)) (.cons (.pure rfl rfl (zua (jua rfl zVa kKa))) (.cons (.pure rfl rfl (zua (V0a rfl rfl (yva h69)))) (.cons (.pure rfl rfl (zua (K8a rfl kKa zRa))) (.cons (.pure rfl rfl (v0a (F:=cU) (l:=([(toU8 ((uShr ((wu64 v62)) ((w64 (8 * s64.1))))))]:List UInt8)) zqa zRa rfl (fun _=>rfl) rfl rfl)) .nil)))))) (.cons (mn tk [6,9,10,11,12] (by kernel_rfl) (.cons (.pure rfl rfl (zua (jua rfl zVa kKa))) (.cons (.pure rfl rfl (zua (V0a rfl rfl (yva h69)))) (.cons (.pure rfl rfl (zua (K8a rfl kKa zRa))) (.cons (.pure rfl rfl (v0a (F:=cU) (l:=([(toU8 ((uShr ((wu64 v62)) ((w64 (8 * s64.1))))))]:List UInt8)) zqa zRa rfl (fun _=>rfl) rfl rfl)) (.cons (mdt 2 rfl (Yoa (F:=cU) (l:=s64.2.out) (xs:=(([(toU8 ((uShr ((wu64 v62)) ((w64 (8 * s64.1))))))]:List UInt8))) (lim:=140737488355328) rfl rfl rfl rfl zqa zRa rfl rfl (fun _=>rfl) rfl h71) (by kernel_rfl)) .nil)))))) (.cons (mn tk [15] (by kernel_rfl) (.cons (mst 3 rfl (jSa rfl rfl rfl zqa rfl rfl) (by kernel_rfl)) .nil)) (.cons (mf tk [] [(0,.ptr 90004000 0),(1,.i v62),(5,.i s64.1)] (by kernel_rfl) .nil (fc rfl (fc rfl (fc rfl fn))) (hA ?_)) .nil))));refine rn tk 6 rfl ?_;cases hr;exact atc rfl rfl
    refine rn tk 2 rfl ?_;cases hr;exact ato rfl rfl rfl rfl
   refine rn tk 1 rfl ?_;refine ie tk [] [(2,.fn (.func 53) [.ptr 90004000 0] []),(12,.l cI a0.Results),(13,.i ((a0.Results.length:Int))),(14,.i s58.1)] [(90004000,.cells [.hs 90004001 0]),(90004001,.row 5 false 1 (List.map cU b65.out)),(1399999,.sus g0.w.heap.size ds13),(1300003,.hold (.ptr 3 0) (T13.getD 3 undef)),(3,.cells [.ptr 90004000 0])] (.inl rfl) rfl rfl rfl rfl (hO ?_);refine rn tk 7 rfl ?_;cases hr;exact atc rfl rfl
  refine rn tk 2 rfl ?_;cases hr;exact ato rfl rfl rfl rfl
 refine rn tk 1 rfl ?_;refine ie tk [] [(3,.ptr 3 0)] [(90004000,.cells [.hs 90004001 0]),(90004001,.row 5 false 1 (List.map cU b59.out)),(3,.cells [.ptr 90004000 0])] (.inl rfl) rfl rfl rfl rfl (hO ?_);refine rn tk 11 rfl ?_;refine vNa (d:=2) (F:=cU) (l:=b59.out) rfl rfl (hC ?_);refine rn tk 1 rfl ?_;cases hr;exact kr tk (.inr rfl) rfl rfl
theorem kcb(a0:List UInt8)(r:Int)(hr:KEa a0=some r):Run prog 54 [.l cU a0] (.pv (.b (.int .u64 r))):=by
 unfold KEa at hr;refine rf (fn:=f54) ⟨func54,rfl,by kernel_rfl⟩ rfl (fun _=>rfl) fun g0 hg=>?_
 refine rn tk 14 rfl<|wn tk rfl rfl rfl<|rn tk 4 rfl<|al1 hr (fun s1=>[(3,.pv (.b (.int .u64 s1.1))),(6,.l cU a0),(7,.i ((a0.length:Int))),(8,.i s1.2)]) (fun s1=>[]) (.exit 0) (fun b2=>[(3,.pv (.b (.int .u64 b2)))]) (fun b2=>[]) rfl rfl (fun s1 x3 hr=>?_) (fun b2 hr=>?_)
 .unfold yRa at hr;refine rn tk 6 rfl<|ac 9 hr rfl (fun c4 hr=>?_) (fun c4 hr=>?_)
  .refine rn tk 6 rfl ?_;obtain ⟨v5,h6,hr⟩:=zaa hr;refine wi tk h6 rfl rfl rfl rfl rfl<|rn tk 7 rfl<|wq (WVa rfl zRa kKa) rfl rfl rfl<|wq (ev_uxor rfl rfl) rfl rfl rfl<|wq (ev_umul rfl rfl) rfl rfl rfl<|rn tk 8 rfl ?_;cases hr;exact atc rfl rfl
  refine rn tk 2 rfl ?_;cases hr;exact ato rfl rfl rfl rfl
 refine rn tk 9 rfl ?_;cases hr;exact kr tk (.inr rfl) rfl rfl
theorem Kea(a0:zha)(r:List UInt8)(hr:wRa a0=some r):Run prog 26 [.agg (zN1 a0)] (.l cU r):=by
 unfold wRa at hr;refine rf (fn:=f26) ⟨func26,rfl,by kernel_rfl⟩ rfl (fun _=>rfl) fun g0 hg=>?_
 refine rn tk 9 rfl<|wo (K3a (k:=6) 90004000 rfl rfl rfl rfl rfl) rfl<|rn tk 1 rfl ?_;refine jqa 90004001 (o:=90004000) (j:=0) 5 1 rfl rfl rfl rfl (hO ?_);refine rn tk 5 rfl ?_;obtain ⟨v1,h2,hr⟩:=zaa hr;refine cl (JBa _ _ h2) rfl rfl<|rn tk 7 rfl<|wb tk rfl rfl rfl ?_;obtain ⟨v3,h4,hr⟩:=zaa hr;refine wo (zXa (k:=12) (kma ((zla.mk (([]:List UInt8)))) v1 v3 h4) rfl rfl (zda rfl (zda rfl zoa))) rfl<|rn tk 6 rfl ?_;obtain ⟨v5,h6,hr⟩:=zaa hr;refine cl (kcb _ _ h6) rfl rfl<|wq (Vda rfl kKa zVa) rfl rfl rfl ?_;obtain ⟨v7,h8,hr⟩:=zaa hr;refine wo (zXa (k:=17) (zUa v3 ((w64 v5)) v7 h8) rfl rfl (zda rfl (zda rfl zoa))) rfl<|rn tk 11 rfl ?_;refine vNa (d:=2) (F:=cU) (l:=v7.out) rfl rfl (hC ?_);refine rn tk 1 rfl ?_;cases hr;exact kr tk (.inr rfl) rfl rfl
theorem Kfa(a0:List UInt8)(a1:zha)(r:(List UInt8) × zpa)(hr:vfa a0 a1=some r):Run prog 8 [.l cU a0,.agg (zN1 a1)] (.tup [.l cU r.1,.agg [.i r.2.Code,.i r.2.Index]]):=by
 unfold vfa at hr;refine rf (fn:=f8) ⟨func8,rfl,by kernel_rfl⟩ rfl (fun _=>rfl) fun g0 hg=>?_
 refine rn tk 11 rfl<|wn tk rfl rfl rfl<|rn tk 3 rfl<|ac 10 hr rfl (fun c1 hr=>?_) (fun c1 hr=>?_)
 .refine rn tk 2 rfl ?_;obtain ⟨v2,h3,hr⟩:=zaa hr;refine cl (zka _ _ _ h3) rfl rfl<|rn tk 6 rfl ?_;cases hr;exact kr tk (.inr rfl) rfl rfl
 refine rn tk 6 rfl ?_;obtain ⟨v4,h5,hr⟩:=zaa hr;refine cl (jKa _ _ h5) rfl rfl<|rn tk 7 rfl ?_;obtain ⟨v6,h7,hr⟩:=zaa hr;refine cl (zTa _ _ h7) rfl rfl<|rn tk 2 rfl<|ac 15 hr rfl (fun c8 hr=>?_) (fun c8 hr=>?_)
 .refine rn tk 1 rfl<|dr 2 [(4,.pv (.sl (some true) [])),(16,.agg [.i v4.Code,.i v4.Index])] mixed (by kernel_rfl) rfl rfl (pq tk rfl (.plain rfl) (pq tk rfl (.plain rfl) .nil)) rfl<|rn tk 5 rfl ?_;cases hr;exact kr tk (.inr rfl) rfl rfl
 refine rn tk 6 rfl ?_;obtain ⟨v9,h10,hr⟩:=zaa hr;refine cl (Kea _ _ h10) rfl rfl<|wz (cL cU) ([a0,v9]:List (List UInt8)) tk rfl rfl (fun _=>rfl) rfl rfl rfl ?_;obtain ⟨v11,h12,hr⟩:=zaa hr;refine cl (jIa _ _ h12) rfl rfl<|rn tk 7 rfl<|wn tk rfl rfl rfl<|rn tk 3 rfl<|ac 24 hr rfl (fun c13 hr=>?_) (fun c13 hr=>?_)
 .refine rn tk 2 rfl ?_;obtain ⟨v14,h15,hr⟩:=zaa hr;refine cl (zka _ _ _ h15) rfl rfl<|rn tk 6 rfl ?_;cases hr;exact kr tk (.inr rfl) rfl rfl
 refine rn tk 5 rfl ?_;obtain ⟨v16,h17,hr⟩:=zaa hr;refine cl (z4a _ h17) rfl rfl<|rn tk 5 rfl ?_;cases hr;exact kr tk (.inr rfl) rfl rfl
theorem Y8a(a0:List UInt8)(a1:List UInt8)(r:Bool)(hr:yma a0 a1=some r):Run prog 105 [.l cU a0,.l cU a1] (.bo r):=by
 unfold yma at hr;refine Zha (fn:=f105) ⟨func105,rfl,by kernel_rfl⟩ rfl (fun _=>rfl) fun g0 hg=>?_
 refine vUa ?_;refine kUa ?_;refine zJa rfl (zLa (d:=4) rfl rfl qEa) ?_;refine qwa<|kwa ?_;refine vUa ?_;refine kUa ?_;refine zJa rfl (zLa (d:=5) rfl rfl k1a) ?_;refine zJa rfl (zLa (d:=6) rfl rfl (VQa rfl zqa zRa kaa)) ?_;refine zJa rfl (zLa (d:=7) rfl rfl k1a) ?_;refine zJa rfl (zLa (d:=8) rfl rfl (VQa rfl zqa zRa kaa)) ?_;refine zJa rfl (zLa (d:=9) rfl rfl (wQb (a:=a0) (b:=a1) rfl rfl)) ?_;refine zJa rfl (zLa (d:=4) rfl rfl qEa) ?_;refine qwa<|kwa ?_;refine VJa ?_;cases hr;exact wTb rfl (.cons (VOa rfl) .nil) rfl
theorem QUa(a0:List UInt8)(a1:List UInt8)(r:Bool)(hr:qsa a0 a1=some r):Run prog 61 [.l cU a0,.l cU a1] (.bo r):=by
 unfold qsa at hr;refine Zha (fn:=f61) ⟨func61,rfl,by kernel_rfl⟩ rfl (fun _=>rfl) fun g0 hg=>?_
 refine vUa ?_;refine kUa ?_;refine zJa rfl (zLa (d:=4) rfl rfl qEa) ?_;refine qwa<|kwa ?_;obtain ⟨j1,hx,hy⟩:=zaa hr;refine WQa (fun j1=>[(4,.bo j1)]) (fun j1=>[]) (fun z=>j1=z) ?_ ?_
 .have hr:=hx;clear hx hy;refine kUa ?_;refine zJa rfl (zLa (d:=5) rfl rfl k1a) ?_;refine zJa rfl (zLa (d:=6) rfl rfl (qea (f:=cU) rfl zqa.u)) ?_;refine zJa rfl (zLa (d:=7) rfl rfl k1a) ?_;refine zJa rfl (zLa (d:=8) rfl rfl (qea (f:=cU) rfl zqa.u)) ?_;refine zJa rfl (zLa (d:=9) rfl rfl (wPb rfl rfl)) ?_;refine zJa rfl (zLa (d:=10) rfl rfl k1a)<|k2a (decide ((a1.length:Int)<=(a0.length:Int))) (fun c2=>?_) (fun c2=>?_)
  .replace hr:=yza c2 hr
   refine jca (d:=10) rfl rfl rfl c2 (zLa (d:=11) rfl rfl k1a) ?_;refine jca (d:=10) rfl rfl rfl c2 (zLa (d:=12) rfl rfl k1a) ?_;refine jca (d:=10) rfl rfl rfl c2 (zLa (d:=13) rfl rfl (qea (f:=cU) rfl zqa.u)) ?_;obtain ⟨v3,h4,hr⟩:=zaa hr;refine jca (d:=10) rfl rfl rfl c2 (zLa (d:=14) rfl rfl (qob (F:=cU) rfl rfl zqa zRa (fun _=>rfl) h4)) ?_;refine jca (d:=10) rfl rfl rfl c2 (zLa (d:=15) rfl rfl k1a) ?_;obtain ⟨v5,h6,hr⟩:=zaa hr;refine jca (d:=10) rfl rfl rfl c2 (W7a (k:=16) (Y8a v3 a1 v5 h6) rfl rfl) ?_;refine zJa rfl (zLa (d:=17) rfl rfl (zza rfl c2)) ?_;refine zJa rfl (zLa (d:=4) rfl rfl qEa) ?_;refine qwa ?_;cases hr;exact jPa _ rfl (zga rfl z5a) zoa
  replace hr:=yAa c2 hr
  refine j6a (d:=10) rfl rfl rfl c2 ?_;refine j6a (d:=10) rfl rfl rfl c2 ?_;refine j6a (d:=10) rfl rfl rfl c2 ?_;refine j6a (d:=10) rfl rfl rfl c2 ?_;refine j6a (d:=10) rfl rfl rfl c2 ?_;refine j6a (d:=10) rfl rfl rfl c2 ?_;refine zJa rfl (zLa (d:=17) rfl rfl (vWa rfl c2)) ?_;refine zJa rfl (zLa (d:=4) rfl rfl qEa) ?_;refine qwa ?_;cases hr;exact jPa _ rfl (zga rfl z5a) zoa
 rintro _ rfl;have hr:=hy;clear hx hy;refine VJa ?_;cases hr;exact wTb rfl (.cons (VOa rfl) .nil) rfl
theorem yya{E:Env}{FR:Fr}{σ:Sto}{ty:TypeId}{pos:String}{af:Array Edge}{gu:Option (Nat × Bool)}{f:FuncId}{k:Nat}{xs:List Operand}{ats:Array TypeId}{args:List AV}{r:AV}{σ0 σ1:Sto}{O:Nat}{rows:List Nat}(hr:RunS E.P f args σ0 r σ1 O rows)(hN:Nat.ble (k+1) E.N=true)(ha:xs.map (fun x=>(FR.ev x).weak)=args)(hle:kHa σ σ0):
 HvD E ⟨some k,.call ⟨.value (.func f),xs.toArray,ats⟩,ty,pos,af,gu⟩ FR σ k r rows (σ1++(σ.dels (O::rows)).clrs rows):=
 ⟨fun fr he _=>zXa hr hN (by
  rw[<-ha];refine List.map_congr_left fun x hx=>?_
  rw[he x (by simp[Op.operands,Call.operands,hx])]) hle⟩
theorem qhb{E:Env}{o:Oper}{FR:Fr}{σ:Sto}{e b:Bool}(h:e=b)(x:OpG E o FR σ (.pv (.b (.bool e)))):OpG E o FR σ (.pv (.b (.bool b))):=h▸x
theorem QVa{P:Program}{ρ:Operand->AV}{σ:Sto}{dst:Option Nat}{ty t:TypeId}{pos:String}{af:Array Edge}{gu:Option (Nat × Bool)}{x:Operand}{size bytes:Nat}{zero:Value}{d:TypeDesc}{el:List PV}{cs:List AV}(hx:ρ x=.ep el)(ht:TyOk P t size bytes zero d)(hd:dAgg d=true)(hn:Nat.ble size el.length=true)(hc:(el.take size).map .pv=cs):EvQ P ⟨dst,.load t x,ty,pos,af,gu⟩ ρ σ (.agg cs):=
 ⟨fun c=>by simp,fun g ρv h _=>by
  have hn:=jAe hn;have h1:=h x (by simp[Op.operands]);rw[hx]at h1;subst hc;generalize hv:ρv x=v at h1;cases h1 with
  | @ep _ b off val hu hb hcell hh=>
   have hl:=wLa (w:=g.w) ht hd (f:=val) (fun i hi=>hcell i (by omega));refine ⟨_,qMa hv hl,.agg (by simp;omega) (fun i hi=>?_) (fun i c hi=>?_)⟩
   .simp at hi;rw[vua _ _ _ (by omega)];exact (hh i _ (jAh (by omega))).cellV
   simp only[jAr,jAi]at hi;obtain ⟨c',h1,rfl⟩:=hi;have hlt:=(jAc.1 h1).1;rw[jBz]at hlt;rw[jAt (by omega)]at h1;rw[vua _ _ _ (by omega)];exact .pv (hh i c' h1)⟩
theorem zFa(a0:zia)(r:Int × zia)(hr:zHa a0=some r):RunS prog 59 [.ptr 90005000 0] [(90005000,.cells [.l cU a0.b,.bo a0.bad])] (.i r.1) [(90005000,.cells [.l cU r.2.b,.bo r.2.bad])] 90005000 []:=by
 unfold zHa at hr;refine rfS (fn:=f59) (H:=90005999) (.ptr 90005000 0) ⟨func59,rfl,by kernel_rfl⟩ rfl (hasT rfl) (.inl ⟨rfl,rfl⟩) rfl rfl rfl rfl fun g0 hg S sg T=>?_
 refine rn tk 12 rfl<|wn tk rfl rfl rfl<|rn tk 3 rfl<|ac 10 hr rfl (fun c1 hr=>?_) (fun c1 hr=>?_)
 .refine rn tk 19 rfl ?_;cases hr;exact krS tk (.inr rfl) rfl rfl (zda rfl (VKa rfl rfl zoa))
 refine rn tk 14 rfl<|al1 hr (fun s2=>[(0,.ptr 90005000 0),(3,.pv (.b (.int .u64 s2.1))),(17,.i s2.2)]) (fun s2=>[(90005999,.hold (.ptr 90005000 0) (T.getD 0 undef)),(90005000,.cells [.l cU a0.b,.bo a0.bad])]) (.exit 0) (fun b3=>[(0,.ptr 90005000 0),(3,.pv (.b (.int .u64 b3)))]) (fun b3=>[(90005999,.hold (.ptr 90005000 0) (T.getD 0 undef)),(90005000,.cells [.l cU a0.b,.bo a0.bad])]) rfl rfl (fun s2 x4 hr=>?_) (fun b3 hr=>?_)
 .unfold kIa at hr;refine rn tk 6 rfl<|ac 18 hr rfl (fun c5 hr=>?_) (fun c5 hr=>?_)
  .refine rn tk 17 rfl ?_;obtain ⟨v6,h7,hr⟩:=zaa hr;refine wi tk h7 rfl rfl rfl rfl rfl<|rn tk 1 rfl<|wq (WVa rfl zRa kKa) rfl rfl rfl<|rn tk 2 rfl ?_;obtain ⟨v8,h9,hr⟩:=zaa hr;refine wq (qIb rfl rfl (yva h9)) rfl rfl rfl<|wq (yxb rfl rfl) rfl rfl rfl<|rn tk 8 rfl ?_;cases hr;exact atc rfl rfl
  refine rn tk 2 rfl ?_;cases hr;exact ato rfl rfl rfl rfl
 refine rn tk 9 rfl ?_;obtain ⟨v10,h11,hr⟩:=zaa hr;refine wlL tk h11 rfl rfl rfl (fun _=>rfl) rfl<|rn tk 8 rfl<|wq (Vda rfl kKa zVa) rfl rfl rfl<|rn tk 4 rfl ?_;cases hr;exact krS tk (.inr rfl) rfl rfl (zda rfl (zda rfl zoa))
theorem kna(a0:zia)(r:Str × zia)(hr:z9a a0=some r):RunS prog 58 [.ptr 90005000 0] [(90005000,.cells [.l cU a0.b,.bo a0.bad])] (.s r.1) [(90005000,.cells [.l cU r.2.b,.bo r.2.bad])] 90005000 []:=by
 unfold z9a at hr;refine rfS (fn:=f58) (H:=90005999) (.ptr 90005000 0) ⟨func58,rfl,by kernel_rfl⟩ rfl (hasT rfl) (.inl ⟨rfl,rfl⟩) rfl rfl rfl rfl fun g0 hg S sg T=>?_
 refine rn tk 8 rfl ?_;obtain ⟨v1,h2,hr⟩:=zaa hr;refine wo (zXa (k:=6) (zFa a0 v1 h2) rfl rfl (zda rfl zoa)) rfl<|rn tk 4 rfl<|jb hr (fun j3=>[(0,.ptr 90005000 0),(3,.i v1.1),(17,.bo j3)]) (fun j3=>[(90005000,.cells [.l cU v1.2.b,.bo v1.2.bad]),(90005999,.hold (.ptr 90005000 0) (T.getD 0 undef))]) (fun j3 hr=>?_) (fun j3 hr=>?_)
 .refine rn tk 4 rfl<|bs 9 hr rfl (fun c4 hr=>?_) (fun c4 hr=>?_)
  .refine rn tk 9 rfl ?_;cases hr;exact jn _ rfl rfl rfl
  refine rn tk 5 rfl<|ug rfl rfl rfl<|wn tk rfl rfl rfl<|rn tk 3 rfl ?_;cases hr;exact jn _ rfl rfl rfl
 refine ac 17 hr rfl (fun c5 hr=>?_) (fun c5 hr=>?_)
 .refine rn tk 19 rfl ?_;cases hr;exact krS tk (.inr rfl) rfl rfl (zda rfl (VKa rfl rfl zoa))
 refine rn tk 9 rfl ?_;obtain ⟨v6,h7,hr⟩:=zaa hr;refine wlH tk h7 rfl rfl rfl (fun _=>rfl) rfl<|wb tk rfl rfl rfl<|rn tk 11 rfl ?_;obtain ⟨v8,h9,hr⟩:=zaa hr;refine wlL tk h9 rfl rfl rfl (fun _=>rfl) rfl<|rn tk 12 rfl ?_;cases hr;exact krS tk (.inr rfl) rfl rfl (zda rfl (zda rfl zoa))
theorem JCa(a0:List UInt8)(r:zha × Bool)(hr:Zza a0=some r):Run prog 60 [.l cU a0] (.tup [.agg (zN1 r.1),.bo r.2]):=by
 unfold Zza at hr;refine rf (fn:=f60) ⟨func60,rfl,by kernel_rfl⟩ rfl (fun _=>rfl) fun g0 hg=>?_
 refine rn tk 10 rfl<|wo (K3a (k:=9) 90005000 rfl rfl rfl rfl rfl) rfl<|rn tk 5 rfl ?_;obtain ⟨v1,h2,hr⟩:=zaa hr;obtain ⟨v3,h4,hr⟩:=zaa hr;refine VYa [some (.ptr 90005000 0),none,some (.ptr 90005000 0),none,some (.agg [.i v1.1,.i v3.1,.s (([]:Str)),.pv (.sl (some true) []),.s (([]:Str)),.pv (.sl (some true) []),.pv (.sl (some true) []),.i 0,.s (([]:Str)),.pv (.sl (some true) []),.pv (.sl (some true) [])]),none,none] [((bt 7 0),[(2,.ptr 2 0),(4,.ptr 4 0)],[(4,.cells [.ptr 90005000 0]),(90005000,.cells [.l cU a0,.bo false]),(2,.cells [.i 0,.i 0,.s (([]:Str)),.pv (.sl (some true) []),.s (([]:Str)),.pv (.sl (some true) []),.pv (.sl (some true) []),.i 0,.s (([]:Str)),.pv (.sl (some true) []),.pv (.sl (some true) [])])]),((bt 7 2),[(2,.ptr 2 0),(4,.ptr 4 0),(11,.i v1.1)],[(90005000,.cells [.l cU v1.2.b,.bo v1.2.bad]),(4,.cells [.ptr 90005000 0]),(2,.cells [.i 0,.i 0,.s (([]:Str)),.pv (.sl (some true) []),.s (([]:Str)),.pv (.sl (some true) []),.pv (.sl (some true) []),.i 0,.s (([]:Str)),.pv (.sl (some true) []),.pv (.sl (some true) [])])]),((bt 7 32),[(2,.ptr 2 0),(4,.ptr 4 0),(5,.ptr 5 0)],[(5,.cells [.i 0,.i 0,.s (([]:Str)),.pv (.sl (some true) []),.s (([]:Str)),.pv (.sl (some true) []),.pv (.sl (some true) []),.i 0,.s (([]:Str)),.pv (.sl (some true) []),.pv (.sl (some true) [])]),(4,.cells [.ptr 90005000 0]),(90005000,.cells [.l cU a0,.bo false]),(2,.cells [.i 0,.i 0,.s (([]:Str)),.pv (.sl (some true) []),.s (([]:Str)),.pv (.sl (some true) []),.pv (.sl (some true) []),.i 0,.s (([]:Str)),.pv (.sl (some true) []),.pv (.sl (some true) [])])]),((bt 7 10),[(2,.ptr 2 0),(4,.ptr 4 0),(11,.i v1.1),(13,.i v3.1)],[(90005000,.cells [.l cU v3.2.b,.bo v3.2.bad]),(4,.cells [.ptr 90005000 0]),(2,.cells [.i 0,.i 0,.s (([]:Str)),.pv (.sl (some true) []),.s (([]:Str)),.pv (.sl (some true) []),.pv (.sl (some true) []),.i 0,.s (([]:Str)),.pv (.sl (some true) []),.pv (.sl (some true) [])])]),((bt 7 34),[(2,.ptr 2 0),(4,.ptr 4 0),(5,.ptr 5 0),(11,.i v1.1)],[(5,.cells [.i 0,.i 0,.s (([]:Str)),.pv (.sl (some true) []),.s (([]:Str)),.pv (.sl (some true) []),.pv (.sl (some true) []),.i 0,.s (([]:Str)),.pv (.sl (some true) []),.pv (.sl (some true) [])]),(90005000,.cells [.l cU v1.2.b,.bo v1.2.bad]),(4,.cells [.ptr 90005000 0]),(2,.cells [.i 0,.i 0,.s (([]:Str)),.pv (.sl (some true) []),.s (([]:Str)),.pv (.sl (some true) []),.pv (.sl (some true) []),.i 0,.s (([]:Str)),.pv (.sl (some true) []),.pv (.sl (some true) [])])]),((bt 7 42),[(2,.ptr 2 0),(4,.ptr 4 0),(5,.ptr 5 0),(11,.i v1.1),(13,.i v3.1)],[(5,.cells [.i 0,.i 0,.s (([]:Str)),.pv (.sl (some true) []),.s (([]:Str)),.pv (.sl (some true) []),.pv (.sl (some true) []),.i 0,.s (([]:Str)),.pv (.sl (some true) []),.pv (.sl (some true) [])]),(90005000,.cells [.l cU v3.2.b,.bo v3.2.bad]),(4,.cells [.ptr 90005000 0]),(2,.cells [.i 0,.i 0,.s (([]:Str)),.pv (.sl (some true) []),.s (([]:Str)),.pv (.sl (some true) []),.pv (.sl (some true) []),.i 0,.s (([]:Str)),.pv (.sl (some true) []),.pv (.sl (some true) [])])]),((bt 7 106),[(2,.ptr 2 0),(4,.ptr 4 0),(5,.ptr 5 0),(11,.i v1.1),(13,.i v3.1)],[(5,.cells [.i v1.1,.i v3.1,.s (([]:Str)),.pv (.sl (some true) []),.s (([]:Str)),.pv (.sl (some true) []),.pv (.sl (some true) []),.i 0,.s (([]:Str)),.pv (.sl (some true) []),.pv (.sl (some true) [])]),(90005000,.cells [.l cU v3.2.b,.bo v3.2.bad]),(4,.cells [.ptr 90005000 0]),(2,.cells [.i 0,.i 0,.s (([]:Str)),.pv (.sl (some true) []),.s (([]:Str)),.pv (.sl (some true) []),.pv (.sl (some true) []),.i 0,.s (([]:Str)),.pv (.sl (some true) []),.pv (.sl (some true) [])])])] mixed (by kernel_rfl) rfl rfl (fc rfl (fc rfl fn)) (sc2 rfl (sc2 rfl (sc2 rfl sn))) (.cons (.step [0,1,2,5] (by kernel_rfl) (by kernel_rfl) (.cons (.pure rfl rfl (mqz tk rfl)) (.cons (.dst 1 rfl rfl (by kernel_rfl) rfl (yya (zFa ((zia.mk a0 false)) v1 h2) rfl rfl (zda rfl zoa)) rfl (fc rfl (fc rfl (fc rfl fn))) (sc2 rfl (sc2 rfl (sc2 rfl sn)))) (.cons (.pure rfl rfl (mqz tk rfl)) (.cons (.dst 2 rfl rfl (by kernel_rfl) rfl (zBb 5 rfl kxa (.inr ⟨rfl,rfl⟩) rfl rfl rfl) rfl (fc rfl (fc rfl (fc rfl fn))) (sc2 rfl (sc2 rfl (sc2 rfl (sc2 rfl sn))))) .nil))))) (.cons (.step [2,3,5] (by kernel_rfl) (by kernel_rfl) (.cons (.pure rfl rfl (mqz tk rfl)) (.cons (.dst 3 rfl rfl (by kernel_rfl) rfl (yya (zFa v1.2 v3 h4) rfl rfl (zda rfl zoa)) rfl (fc rfl (fc rfl (fc rfl (fc rfl fn)))) (sc2 rfl (sc2 rfl (sc2 rfl sn)))) (.cons (.dst 4 rfl rfl (by kernel_rfl) rfl (zBb 5 rfl kxa (.inr ⟨rfl,rfl⟩) rfl rfl rfl) rfl (fc rfl (fc rfl (fc rfl (fc rfl fn)))) (sc2 rfl (sc2 rfl (sc2 rfl (sc2 rfl sn))))) .nil)))) (.cons (.step [0,1,2] (by kernel_rfl) (by kernel_rfl) (.cons (.pure rfl rfl (mqz tk rfl)) (.cons (.dst 4 rfl rfl (by kernel_rfl) rfl (yya (zFa ((zia.mk a0 false)) v1 h2) rfl rfl (zda rfl zoa)) rfl (fc rfl (fc rfl (fc rfl (fc rfl fn)))) (sc2 rfl (sc2 rfl (sc2 rfl (sc2 rfl sn))))) (.cons (.pure rfl rfl (mqz tk rfl)) .nil)))) (.cons (.step [4,5] (by kernel_rfl) (by kernel_rfl) (.cons (.pure rfl rfl (mqz tk rfl)) (.cons (.dst 5 rfl rfl (by kernel_rfl) rfl (zBb 5 rfl kxa (.inr ⟨rfl,rfl⟩) rfl rfl rfl) rfl (fc rfl (fc rfl (fc rfl (fc rfl (fc rfl fn))))) (sc2 rfl (sc2 rfl (sc2 rfl (sc2 rfl sn))))) .nil))) (.cons (.step [2,3] (by kernel_rfl) (by kernel_rfl) (.cons (.pure rfl rfl (mqz tk rfl)) (.cons (.dst 5 rfl rfl (by kernel_rfl) rfl (yya (zFa v1.2 v3 h4) rfl rfl (zda rfl zoa)) rfl (fc rfl (fc rfl (fc rfl (fc rfl (fc rfl fn))))) (sc2 rfl (sc2 rfl (sc2 rfl (sc2 rfl sn))))) .nil))) (.cons (.step [4,6] (by kernel_rfl) (by kernel_rfl) (.cons (.pure rfl rfl (mqz tk rfl)) (.cons (.sto 6 rfl rfl (jSa rfl rfl rfl kxa rfl rfl) rfl (fc rfl (fc rfl (fc rfl (fc rfl (fc rfl fn))))) (sc2 rfl (sc2 rfl (sc2 rfl (sc2 rfl sn))))) .nil))) (.cons (.full (frJ:=[(2,.ptr 2 0),(4,.ptr 4 0),(5,.ptr 5 0)]) (σJ:=[(5,.cells [.i v1.1,.i v3.1,.s (([]:Str)),.pv (.sl (some true) []),.s (([]:Str)),.pv (.sl (some true) []),.pv (.sl (some true) []),.i 0,.s (([]:Str)),.pv (.sl (some true) []),.pv (.sl (some true) [])]),(90005000,.cells [.l cU v3.2.b,.bo v3.2.bad]),(4,.cells [.ptr 90005000 0]),(2,.cells [.i 0,.i 0,.s (([]:Str)),.pv (.sl (some true) []),.s (([]:Str)),.pv (.sl (some true) []),.pv (.sl (some true) []),.i 0,.s (([]:Str)),.pv (.sl (some true) []),.pv (.sl (some true) [])])]) [] (by kernel_rfl) .nil (fc rfl (fc rfl (fc rfl fn))) (sc2 rfl (sc2 rfl (sc2 rfl (sc2 rfl sn)))) (hA ?_)) .nil)))))));refine rn tk 1 rfl<|jb hr (fun j5=>[(2,.ptr 2 0),(4,.ptr 4 0),(5,.ptr 5 0)]) (fun j5=>[(90005000,.cells [.l cU j5.1.b,.bo j5.1.bad]),(5,.cells (zN1 j5.2)),(4,.cells [.ptr 90005000 0]),(2,.cells [.i 0,.i 0,.s (([]:Str)),.l zca.pc ([]),.s (([]:Str)),.l zja.pc ([]),.l cU ([]),.i 0,.s (([]:Str)),.l cI ([]),.l cI ([])])]) (fun j5 hr=>?_) (fun j5 hr=>?_)
 .refine rn tk 7 rfl<|ac 17 hr rfl (fun c6 hr=>?_) (fun c6 hr=>?_)
  .refine rn tk 11 rfl ?_;obtain ⟨v7,h8,hr⟩:=zaa hr;refine wo (zXa (k:=22) (kna v3.2 v7 h8) rfl rfl (zda rfl zoa)) rfl<|rn tk 10 rfl<|il (fn:=Tryz.f100) (args:=[.ptr 90005000 0,.fn (.func 101) [] [.ptr 4 0]]) 2100000 2199999 [(2,.ptr 2 0),(4,.ptr 4 0),(5,.ptr 5 0),(6,.ptr 5 2),(25,.ptr 5 2)] rfl ⟨func100,rfl,by kernel_rfl⟩ rfl rfl rfl fun T21 ds21=>?_
   refine rn tk 8 rfl ?_;obtain ⟨v9,h10,hr⟩:=zaa hr;refine wo (zXa (k:=9) (zFa v7.2 v9 h10) rfl rfl (zda rfl zoa)) rfl<|rn tk 6 rfl ?_;refine qna 1006 (d:=6) 78 2 rfl rfl rfl (hO ?_);refine rn tk 9 rfl<|al1 hr (fun s11=>[(0,.ptr 90005000 0),(1,.fn (.func 101) [] [.ptr 4 0]),(5,.i v9.1),(6,.hs 1006 0),(7,.i s11.1)]) (fun s11=>[(1006,.row 78 false 2 (List.map zca.pc s11.2.2)),(90005000,.cells [.l cU s11.2.1.b,.bo s11.2.1.bad]),(2199999,.sus g0.w.heap.size ds21),(2100002,.hold (.ptr 2 0) (T21.getD 2 undef)),(2100004,.hold (.ptr 4 0) (T21.getD 4 undef)),(2100005,.hold (.ptr 5 0) (T21.getD 5 undef)),(2100006,.hold (.ptr 5 2) (T21.getD 6 undef)),(2100025,.hold (.ptr 5 2) (T21.getD 25 undef)),(5,.cells [.i v1.1,.i v3.1,.s v7.1,.l zca.pc ([]),.s (([]:Str)),.l zja.pc ([]),.l cU ([]),.i 0,.s (([]:Str)),.l cI ([]),.l cI ([])]),(4,.cells [.ptr 90005000 0]),(2,.cells [.i 0,.i 0,.s (([]:Str)),.l zca.pc ([]),.s (([]:Str)),.l zja.pc ([]),.l cU ([]),.i 0,.s (([]:Str)),.l cI ([]),.l cI ([])])]) (.exit 0) (fun b12=>[(6,.hs 1006 0)]) (fun b12=>[(90005000,.cells [.l cU b12.1.b,.bo b12.1.bad]),(1006,.row 78 false 2 (List.map zca.pc b12.2)),(2199999,.sus g0.w.heap.size ds21),(2100002,.hold (.ptr 2 0) (T21.getD 2 undef)),(2100004,.hold (.ptr 4 0) (T21.getD 4 undef)),(2100005,.hold (.ptr 5 0) (T21.getD 5 undef)),(2100006,.hold (.ptr 5 2) (T21.getD 6 undef)),(2100025,.hold (.ptr 5 2) (T21.getD 25 undef)),(5,.cells [.i v1.1,.i v3.1,.s v7.1,.l zca.pc ([]),.s (([]:Str)),.l zja.pc ([]),.l cU ([]),.i 0,.s (([]:Str)),.l cI ([]),.l cI ([])]),(4,.cells [.ptr 90005000 0]),(2,.cells [.i 0,.i 0,.s (([]:Str)),.l zca.pc ([]),.s (([]:Str)),.l zja.pc ([]),.l cU ([]),.i 0,.s (([]:Str)),.l cI ([]),.l cI ([])])]) rfl rfl (fun s11 x13 hr=>?_) (fun b12 hr=>?_)
   .unfold vpa at hr;refine rn tk 1 rfl<|jb hr (fun j14=>[(0,.ptr 90005000 0),(1,.fn (.func 101) [] [.ptr 4 0]),(5,.i v9.1),(6,.hs 1006 0),(7,.i s11.1),(19,.bo j14)]) (fun j14=>[(1006,.row 78 false 2 (List.map zca.pc s11.2.2)),(90005000,.cells [.l cU s11.2.1.b,.bo s11.2.1.bad]),(2199999,.sus g0.w.heap.size ds21),(2100002,.hold (.ptr 2 0) (T21.getD 2 undef)),(2100004,.hold (.ptr 4 0) (T21.getD 4 undef)),(2100005,.hold (.ptr 5 0) (T21.getD 5 undef)),(2100006,.hold (.ptr 5 2) (T21.getD 6 undef)),(2100025,.hold (.ptr 5 2) (T21.getD 25 undef)),(5,.cells [.i v1.1,.i v3.1,.s v7.1,.l zca.pc ([]),.s (([]:Str)),.l zja.pc ([]),.l cU ([]),.i 0,.s (([]:Str)),.l cI ([]),.l cI ([])]),(4,.cells [.ptr 90005000 0]),(2,.cells [.i 0,.i 0,.s (([]:Str)),.l zca.pc ([]),.s (([]:Str)),.l zja.pc ([]),.l cU ([]),.i 0,.s (([]:Str)),.l cI ([]),.l cI ([])])]) (fun j14 hr=>?_) (fun j14 hr=>?_)
    .refine rn tk 5 rfl<|bs 13 hr rfl (fun c15 hr=>?_) (fun c15 hr=>?_)
     .refine rn tk 7 rfl ?_;cases hr;exact jn _ rfl rfl rfl
     refine rn tk 7 rfl ?_;cases hr;exact jn _ rfl rfl rfl
    refine ac 19 hr rfl (fun c16 hr=>?_) (fun c16 hr=>?_)
    .refine rn tk 7 rfl<|il (fn:=f101) (args:=[.ptr 4 0]) 2500000 2599999 [(0,.ptr 90005000 0),(1,.fn (.func 101) [] [.ptr 4 0]),(5,.i v9.1),(7,.i s11.1),(22,.hs 1006 0)] rfl ⟨func101,rfl,by kernel_rfl⟩ rfl rfl rfl fun T25 ds25=>?_
     refine rn tk 6 rfl ?_;obtain ⟨v17,h18,hr⟩:=zaa hr;obtain ⟨v19,h20,hr⟩:=zaa hr;refine mz [some (.ptr 90005000 0),none,some (.ptr 90005000 0),none,some (.agg [.s v17.1,.i v19.1]),none] (fun f s=>[((bt 6 0),f,s),((bt 6 2),((3,.s v17.1)::Fr.clrs [] f),([(90005000,.cells [.l cU v17.2.b,.bo v17.2.bad])]++Sto.clrs [] (Sto.dels [90005000] s))),((bt 6 10),((5,.i v19.1)::Fr.clrs [] ((3,.s v17.1)::Fr.clrs [] f)),([(90005000,.cells [.l cU v19.2.b,.bo v19.2.bad])]++Sto.clrs [] (Sto.dels [90005000] ([(90005000,.cells [.l cU v17.2.b,.bo v17.2.bad])]++Sto.clrs [] (Sto.dels [90005000] s))))),((bt 6 42),((5,.i v19.1)::Fr.clrs [] ((3,.s v17.1)::Fr.clrs [] f)),(Sto.upd ([(90005000,.cells [.l cU v19.2.b,.bo v19.2.bad])]++Sto.clrs [] (Sto.dels [90005000] ([(90005000,.cells [.l cU v17.2.b,.bo v17.2.bad])]++Sto.clrs [] (Sto.dels [90005000] s)))) 1 (.cells [.s v17.1,.i v19.1])))]) mixed (by kernel_rfl) (.cons (mn tk [1] (by kernel_rfl) (.cons (mdt 1 rfl (yya (kna s11.2.1 v17 h18) rfl rfl (zda rfl zoa)) (by kernel_rfl)) .nil)) (.cons (mn tk [3] (by kernel_rfl) (.cons (mdt 2 rfl (yya (zFa v17.2 v19 h20) rfl rfl (zda rfl zoa)) (by kernel_rfl)) .nil)) (.cons (mn tk [5] (by kernel_rfl) (.cons (mst 3 rfl (jSa rfl rfl rfl zNa rfl rfl) (by kernel_rfl)) .nil)) (.cons (mf tk [] [(1,.ptr 1 0)] (by kernel_rfl) .nil (fc rfl fn) (hA ?_)) .nil))));refine rn tk 2 rfl ?_;refine ie tk [.agg [.s v17.1,.i v19.1]] [(0,.ptr 90005000 0),(1,.fn (.func 101) [] [.ptr 4 0]),(5,.i v9.1),(7,.i s11.1),(22,.hs 1006 0)] [(90005000,.cells [.l cU v19.2.b,.bo v19.2.bad]),(1,.cells [.s v17.1,.i v19.1]),(1006,.row 78 false 2 (List.map zca.pc s11.2.2)),(2199999,.sus g0.w.heap.size ds21),(2100002,.hold (.ptr 2 0) (T21.getD 2 undef)),(2100004,.hold (.ptr 4 0) (T21.getD 4 undef)),(2100005,.hold (.ptr 5 0) (T21.getD 5 undef)),(2100006,.hold (.ptr 5 2) (T21.getD 6 undef)),(2100025,.hold (.ptr 5 2) (T21.getD 25 undef)),(5,.cells [.i v1.1,.i v3.1,.s v7.1,.l zca.pc ([]),.s (([]:Str)),.l zja.pc ([]),.l cU ([]),.i 0,.s (([]:Str)),.l cI ([]),.l cI ([])]),(4,.cells [.ptr 90005000 0]),(2,.cells [.i 0,.i 0,.s (([]:Str)),.l zca.pc ([]),.s (([]:Str)),.l zja.pc ([]),.l cU ([]),.i 0,.s (([]:Str)),.l cI ([]),.l cI ([])])] (.inr rfl) rfl rfl rfl rfl (hO ?_);refine wz zca.pc ([(zca.mk v17.1 v19.1)]:List zca) tk rfl rfl (fun _=>rfl) rfl rfl rfl ?_;obtain ⟨v21,h22,hr⟩:=zaa hr;refine wa tk h22 rfl rfl rfl rfl (fun _=>rfl) rfl rfl<|rn tk 9 rfl ?_;cases hr;exact atc rfl rfl
    refine rn tk 2 rfl ?_;cases hr;exact ato rfl rfl rfl rfl
   refine rn tk 9 rfl ?_;refine ie tk [.hs 1006 0] [(2,.ptr 2 0),(4,.ptr 4 0),(5,.ptr 5 0),(6,.ptr 5 2),(25,.ptr 5 2)] [(90005000,.cells [.l cU b12.1.b,.bo b12.1.bad]),(1006,.row 78 false 2 (List.map zca.pc b12.2)),(5,.cells [.i v1.1,.i v3.1,.s v7.1,.l zca.pc ([]),.s (([]:Str)),.l zja.pc ([]),.l cU ([]),.i 0,.s (([]:Str)),.l cI ([]),.l cI ([])]),(4,.cells [.ptr 90005000 0]),(2,.cells [.i 0,.i 0,.s (([]:Str)),.l zca.pc ([]),.s (([]:Str)),.l zja.pc ([]),.l cU ([]),.i 0,.s (([]:Str)),.l cI ([]),.l cI ([])])] (.inr rfl) rfl rfl rfl rfl (hO ?_);refine rn tk 2 rfl ?_;refine WSa (d:=28) (F:=zca.pc) (l:=b12.2) rfl rfl (hO ?_);refine rn tk 7 rfl ?_;obtain ⟨v23,h24,hr⟩:=zaa hr;refine wo (zXa (k:=33) (kna b12.1 v23 h24) rfl rfl (zda rfl zoa)) rfl<|rn tk 9 rfl<|il (fn:=f102) (args:=[.ptr 90005000 0,.fn (.func 103) [] [.ptr 4 0]]) 2600000 2699999 [(2,.ptr 2 0),(4,.ptr 4 0),(5,.ptr 5 0)] rfl ⟨func102,rfl,by kernel_rfl⟩ rfl rfl rfl fun T26 ds26=>?_
   refine rn tk 8 rfl ?_;obtain ⟨v25,h26,hr⟩:=zaa hr;refine wo (zXa (k:=9) (zFa v23.2 v25 h26) rfl rfl (zda rfl zoa)) rfl<|rn tk 6 rfl ?_;refine qna 2006 (d:=6) 80 2 rfl rfl rfl (hO ?_);refine rn tk 9 rfl<|al1 hr (fun s27=>[(0,.ptr 90005000 0),(1,.fn (.func 103) [] [.ptr 4 0]),(5,.i v25.1),(6,.hs 2006 0),(7,.i s27.1)]) (fun s27=>[(2006,.row 80 false 2 (List.map zja.pc s27.2.2)),(90005000,.cells [.l cU s27.2.1.b,.bo s27.2.1.bad]),(2699999,.sus g0.w.heap.size ds26),(2600002,.hold (.ptr 2 0) (T26.getD 2 undef)),(2600004,.hold (.ptr 4 0) (T26.getD 4 undef)),(2600005,.hold (.ptr 5 0) (T26.getD 5 undef)),(5,.cells [.i v1.1,.i v3.1,.s v7.1,.l zca.pc b12.2,.s v23.1,.l zja.pc ([]),.l cU ([]),.i 0,.s (([]:Str)),.l cI ([]),.l cI ([])]),(4,.cells [.ptr 90005000 0]),(2,.cells [.i 0,.i 0,.s (([]:Str)),.l zca.pc ([]),.s (([]:Str)),.l zja.pc ([]),.l cU ([]),.i 0,.s (([]:Str)),.l cI ([]),.l cI ([])])]) (.exit 0) (fun b28=>[(6,.hs 2006 0)]) (fun b28=>[(90005000,.cells [.l cU b28.1.b,.bo b28.1.bad]),(2006,.row 80 false 2 (List.map zja.pc b28.2)),(2699999,.sus g0.w.heap.size ds26),(2600002,.hold (.ptr 2 0) (T26.getD 2 undef)),(2600004,.hold (.ptr 4 0) (T26.getD 4 undef)),(2600005,.hold (.ptr 5 0) (T26.getD 5 undef)),(5,.cells [.i v1.1,.i v3.1,.s v7.1,.l zca.pc b12.2,.s v23.1,.l zja.pc ([]),.l cU ([]),.i 0,.s (([]:Str)),.l cI ([]),.l cI ([])]),(4,.cells [.ptr 90005000 0]),(2,.cells [.i 0,.i 0,.s (([]:Str)),.l zca.pc ([]),.s (([]:Str)),.l zja.pc ([]),.l cU ([]),.i 0,.s (([]:Str)),.l cI ([]),.l cI ([])])]) rfl rfl (fun s27 x29 hr=>?_) (fun b28 hr=>?_)
   .unfold vqa at hr;refine rn tk 1 rfl<|jb hr (fun j30=>[(0,.ptr 90005000 0),(1,.fn (.func 103) [] [.ptr 4 0]),(5,.i v25.1),(6,.hs 2006 0),(7,.i s27.1),(19,.bo j30)]) (fun j30=>[(2006,.row 80 false 2 (List.map zja.pc s27.2.2)),(90005000,.cells [.l cU s27.2.1.b,.bo s27.2.1.bad]),(2699999,.sus g0.w.heap.size ds26),(2600002,.hold (.ptr 2 0) (T26.getD 2 undef)),(2600004,.hold (.ptr 4 0) (T26.getD 4 undef)),(2600005,.hold (.ptr 5 0) (T26.getD 5 undef)),(5,.cells [.i v1.1,.i v3.1,.s v7.1,.l zca.pc b12.2,.s v23.1,.l zja.pc ([]),.l cU ([]),.i 0,.s (([]:Str)),.l cI ([]),.l cI ([])]),(4,.cells [.ptr 90005000 0]),(2,.cells [.i 0,.i 0,.s (([]:Str)),.l zca.pc ([]),.s (([]:Str)),.l zja.pc ([]),.l cU ([]),.i 0,.s (([]:Str)),.l cI ([]),.l cI ([])])]) (fun j30 hr=>?_) (fun j30 hr=>?_)
    .refine rn tk 5 rfl<|bs 13 hr rfl (fun c31 hr=>?_) (fun c31 hr=>?_)
     .refine rn tk 7 rfl ?_;cases hr;exact jn _ rfl rfl rfl
     refine rn tk 7 rfl ?_;cases hr;exact jn _ rfl rfl rfl
    refine ac 19 hr rfl (fun c32 hr=>?_) (fun c32 hr=>?_)
    .refine rn tk 7 rfl<|il (fn:=f103) (args:=[.ptr 4 0]) 3000000 3099999 [(0,.ptr 90005000 0),(1,.fn (.func 103) [] [.ptr 4 0]),(5,.i v25.1),(7,.i s27.1),(22,.hs 2006 0)] rfl ⟨func103,rfl,by kernel_rfl⟩ rfl rfl rfl fun T30 ds30=>?_
     refine rn tk 6 rfl ?_;obtain ⟨v33,h34,hr⟩:=zaa hr;obtain ⟨v35,h36,hr⟩:=zaa hr;refine mz [some (.ptr 90005000 0),none,some (.ptr 90005000 0),none,some (.agg [.s v33.1,.s v35.1]),none] (fun f s=>[((bt 6 0),f,s),((bt 6 2),((3,.s v33.1)::Fr.clrs [] f),([(90005000,.cells [.l cU v33.2.b,.bo v33.2.bad])]++Sto.clrs [] (Sto.dels [90005000] s))),((bt 6 10),((5,.s v35.1)::Fr.clrs [] ((3,.s v33.1)::Fr.clrs [] f)),([(90005000,.cells [.l cU v35.2.b,.bo v35.2.bad])]++Sto.clrs [] (Sto.dels [90005000] ([(90005000,.cells [.l cU v33.2.b,.bo v33.2.bad])]++Sto.clrs [] (Sto.dels [90005000] s))))),((bt 6 42),((5,.s v35.1)::Fr.clrs [] ((3,.s v33.1)::Fr.clrs [] f)),(Sto.upd ([(90005000,.cells [.l cU v35.2.b,.bo v35.2.bad])]++Sto.clrs [] (Sto.dels [90005000] ([(90005000,.cells [.l cU v33.2.b,.bo v33.2.bad])]++Sto.clrs [] (Sto.dels [90005000] s)))) 1 (.cells [.s v33.1,.s v35.1])))]) mixed (by kernel_rfl) (.cons (mn tk [1] (by kernel_rfl) (.cons (mdt 1 rfl (yya (kna s27.2.1 v33 h34) rfl rfl (zda rfl zoa)) (by kernel_rfl)) .nil)) (.cons (mn tk [3] (by kernel_rfl) (.cons (mdt 2 rfl (yya (kna v33.2 v35 h36) rfl rfl (zda rfl zoa)) (by kernel_rfl)) .nil)) (.cons (mn tk [5] (by kernel_rfl) (.cons (mst 3 rfl (jSa rfl rfl rfl qka rfl rfl) (by kernel_rfl)) .nil)) (.cons (mf tk [] [(1,.ptr 1 0)] (by kernel_rfl) .nil (fc rfl fn) (hA ?_)) .nil))));refine rn tk 2 rfl ?_;refine ie tk [.agg [.s v33.1,.s v35.1]] [(0,.ptr 90005000 0),(1,.fn (.func 103) [] [.ptr 4 0]),(5,.i v25.1),(7,.i s27.1),(22,.hs 2006 0)] [(90005000,.cells [.l cU v35.2.b,.bo v35.2.bad]),(1,.cells [.s v33.1,.s v35.1]),(2006,.row 80 false 2 (List.map zja.pc s27.2.2)),(2699999,.sus g0.w.heap.size ds26),(2600002,.hold (.ptr 2 0) (T26.getD 2 undef)),(2600004,.hold (.ptr 4 0) (T26.getD 4 undef)),(2600005,.hold (.ptr 5 0) (T26.getD 5 undef)),(5,.cells [.i v1.1,.i v3.1,.s v7.1,.l zca.pc b12.2,.s v23.1,.l zja.pc ([]),.l cU ([]),.i 0,.s (([]:Str)),.l cI ([]),.l cI ([])]),(4,.cells [.ptr 90005000 0]),(2,.cells [.i 0,.i 0,.s (([]:Str)),.l zca.pc ([]),.s (([]:Str)),.l zja.pc ([]),.l cU ([]),.i 0,.s (([]:Str)),.l cI ([]),.l cI ([])])] (.inr rfl) rfl rfl rfl rfl (hO ?_);refine wz zja.pc ([(zja.mk v33.1 v35.1)]:List zja) tk rfl rfl (fun _=>rfl) rfl rfl rfl ?_;obtain ⟨v37,h38,hr⟩:=zaa hr;refine wa tk h38 rfl rfl rfl rfl (fun _=>rfl) rfl rfl<|rn tk 9 rfl ?_;cases hr;exact atc rfl rfl
    refine rn tk 2 rfl ?_;cases hr;exact ato rfl rfl rfl rfl
   refine rn tk 9 rfl ?_;refine ie tk [.hs 2006 0] [(2,.ptr 2 0),(4,.ptr 4 0),(5,.ptr 5 0)] [(90005000,.cells [.l cU b28.1.b,.bo b28.1.bad]),(2006,.row 80 false 2 (List.map zja.pc b28.2)),(5,.cells [.i v1.1,.i v3.1,.s v7.1,.l zca.pc b12.2,.s v23.1,.l zja.pc ([]),.l cU ([]),.i 0,.s (([]:Str)),.l cI ([]),.l cI ([])]),(4,.cells [.ptr 90005000 0]),(2,.cells [.i 0,.i 0,.s (([]:Str)),.l zca.pc ([]),.s (([]:Str)),.l zja.pc ([]),.l cU ([]),.i 0,.s (([]:Str)),.l cI ([]),.l cI ([])])] (.inr rfl) rfl rfl rfl rfl (hO ?_);refine rn tk 3 rfl ?_;refine WSa (d:=38) (F:=zja.pc) (l:=b28.2) rfl rfl (hO ?_);refine rn tk 5 rfl ?_;obtain ⟨v39,h40,hr⟩:=zaa hr;refine wo (zXa (k:=43) (kna b28.1 v39 h40) rfl rfl (zda rfl zoa)) rfl<|wo (Qpa (d:=44) rfl rfl (Yaa (k:=0) rfl kaa zqa zRa)) rfl<|rn tk 5 rfl ?_;cases hr;exact jn _ rfl rfl rfl
  refine rn tk 1 rfl ?_;obtain ⟨v41,h42,hr⟩:=zaa hr;obtain ⟨v43,h44,hr⟩:=zaa hr;refine mz [some (.ptr 90005000 0),none,some (.ptr 90005000 0),none,some (.ptr 5 7),some (.ptr 5 7),none,some (.ptr 5 7),some (.ptr 5 8),none] (fun f s=>[((bt 10 0),f,s),((bt 10 2),((49,.i v41.1)::Fr.clrs [] f),([(90005000,.cells [.l cU v41.2.b,.bo v41.2.bad])]++Sto.clrs [] (Sto.dels [90005000] s))),((bt 10 10),((51,.s v43.1)::Fr.clrs [] ((49,.i v41.1)::Fr.clrs [] f)),([(90005000,.cells [.l cU v43.2.b,.bo v43.2.bad])]++Sto.clrs [] (Sto.dels [90005000] ([(90005000,.cells [.l cU v41.2.b,.bo v41.2.bad])]++Sto.clrs [] (Sto.dels [90005000] s))))),((bt 10 74),((51,.s v43.1)::Fr.clrs [] ((49,.i v41.1)::Fr.clrs [] f)),(Sto.upd ([(90005000,.cells [.l cU v43.2.b,.bo v43.2.bad])]++Sto.clrs [] (Sto.dels [90005000] ([(90005000,.cells [.l cU v41.2.b,.bo v41.2.bad])]++Sto.clrs [] (Sto.dels [90005000] s)))) 5 (.cells [.i v1.1,.i v3.1,.s (([]:Str)),.pv (.sl (some true) []),.s (([]:Str)),.pv (.sl (some true) []),.pv (.sl (some true) []),.i v41.1,.s (([]:Str)),.pv (.sl (some true) []),.pv (.sl (some true) [])]))),((bt 10 586),((51,.s v43.1)::Fr.clrs [] ((49,.i v41.1)::Fr.clrs [] f)),(Sto.upd (Sto.upd ([(90005000,.cells [.l cU v43.2.b,.bo v43.2.bad])]++Sto.clrs [] (Sto.dels [90005000] ([(90005000,.cells [.l cU v41.2.b,.bo v41.2.bad])]++Sto.clrs [] (Sto.dels [90005000] s)))) 5 (.cells [.i v1.1,.i v3.1,.s (([]:Str)),.pv (.sl (some true) []),.s (([]:Str)),.pv (.sl (some true) []),.pv (.sl (some true) []),.i v41.1,.s (([]:Str)),.pv (.sl (some true) []),.pv (.sl (some true) [])])) 5 (.cells [.i v1.1,.i v3.1,.s (([]:Str)),.pv (.sl (some true) []),.s (([]:Str)),.pv (.sl (some true) []),.pv (.sl (some true) []),.i v41.1,.s v43.1,.pv (.sl (some true) []),.pv (.sl (some true) [])])))]) mixed (by kernel_rfl) (.cons (mn tk [1] (by kernel_rfl) (.cons (mdt 1 rfl (yya (zFa v3.2 v41 h42) rfl rfl (zda rfl zoa)) (by kernel_rfl)) .nil)) (.cons (mn tk [3] (by kernel_rfl) (.cons (mdt 2 rfl (yya (kna v41.2 v43 h44) rfl rfl (zda rfl zoa)) (by kernel_rfl)) .nil)) (.cons (mn tk [6] (by kernel_rfl) (.cons (mst 3 rfl (jSa rfl rfl rfl zVa rfl rfl) (by kernel_rfl)) .nil)) (.cons (mn tk [9] (by kernel_rfl) (.cons (mst 4 rfl (jSa rfl rfl rfl kaa rfl rfl) (by kernel_rfl)) .nil)) (.cons (mf tk [] [(2,.ptr 2 0),(4,.ptr 4 0),(5,.ptr 5 0)] (by kernel_rfl) .nil (fc rfl (fc rfl (fc rfl fn))) (hA ?_)) .nil)))));refine rn tk 6 rfl<|il (fn:=f104) (args:=[.ptr 90005000 0,.fn (.func 59) [.ptr 90005000 0] []]) 3100000 3199999 [(2,.ptr 2 0),(4,.ptr 4 0),(5,.ptr 5 0)] rfl ⟨func104,rfl,by kernel_rfl⟩ rfl rfl rfl fun T31 ds31=>?_
  refine rn tk 8 rfl ?_;obtain ⟨v45,h46,hr⟩:=zaa hr;refine wo (zXa (k:=9) (zFa v43.2 v45 h46) rfl rfl (zda rfl zoa)) rfl<|rn tk 6 rfl ?_;refine qna 1006 (d:=6) 3 1 rfl rfl rfl (hO ?_);refine rn tk 9 rfl<|al1 hr (fun s47=>[(0,.ptr 90005000 0),(1,.fn (.func 59) [.ptr 90005000 0] []),(5,.i v45.1),(6,.hs 1006 0),(7,.i s47.1)]) (fun s47=>[(1006,.row 3 false 1 (List.map cI s47.2.2)),(90005000,.cells [.l cU s47.2.1.b,.bo s47.2.1.bad]),(3199999,.sus g0.w.heap.size ds31),(3100002,.hold (.ptr 2 0) (T31.getD 2 undef)),(3100004,.hold (.ptr 4 0) (T31.getD 4 undef)),(3100005,.hold (.ptr 5 0) (T31.getD 5 undef)),(5,.cells [.i v1.1,.i v3.1,.s (([]:Str)),.l zca.pc ([]),.s (([]:Str)),.l zja.pc ([]),.l cU ([]),.i v41.1,.s v43.1,.l cI ([]),.l cI ([])]),(4,.cells [.ptr 90005000 0]),(2,.cells [.i 0,.i 0,.s (([]:Str)),.l zca.pc ([]),.s (([]:Str)),.l zja.pc ([]),.l cU ([]),.i 0,.s (([]:Str)),.l cI ([]),.l cI ([])])]) (.exit 0) (fun b48=>[(6,.hs 1006 0)]) (fun b48=>[(90005000,.cells [.l cU b48.1.b,.bo b48.1.bad]),(1006,.row 3 false 1 (List.map cI b48.2)),(3199999,.sus g0.w.heap.size ds31),(3100002,.hold (.ptr 2 0) (T31.getD 2 undef)),(3100004,.hold (.ptr 4 0) (T31.getD 4 undef)),(3100005,.hold (.ptr 5 0) (T31.getD 5 undef)),(5,.cells [.i v1.1,.i v3.1,.s (([]:Str)),.l zca.pc ([]),.s (([]:Str)),.l zja.pc ([]),.l cU ([]),.i v41.1,.s v43.1,.l cI ([]),.l cI ([])]),(4,.cells [.ptr 90005000 0]),(2,.cells [.i 0,.i 0,.s (([]:Str)),.l zca.pc ([]),.s (([]:Str)),.l zja.pc ([]),.l cU ([]),.i 0,.s (([]:Str)),.l cI ([]),.l cI ([])])]) rfl rfl (fun s47 x49 hr=>?_) (fun b48 hr=>?_)
  .unfold vra at hr;refine rn tk 1 rfl<|jb hr (fun j50=>[(0,.ptr 90005000 0),(1,.fn (.func 59) [.ptr 90005000 0] []),(5,.i v45.1),(6,.hs 1006 0),(7,.i s47.1),(19,.bo j50)]) (fun j50=>[(1006,.row 3 false 1 (List.map cI s47.2.2)),(90005000,.cells [.l cU s47.2.1.b,.bo s47.2.1.bad]),(3199999,.sus g0.w.heap.size ds31),(3100002,.hold (.ptr 2 0) (T31.getD 2 undef)),(3100004,.hold (.ptr 4 0) (T31.getD 4 undef)),(3100005,.hold (.ptr 5 0) (T31.getD 5 undef)),(5,.cells [.i v1.1,.i v3.1,.s (([]:Str)),.l zca.pc ([]),.s (([]:Str)),.l zja.pc ([]),.l cU ([]),.i v41.1,.s v43.1,.l cI ([]),.l cI ([])]),(4,.cells [.ptr 90005000 0]),(2,.cells [.i 0,.i 0,.s (([]:Str)),.l zca.pc ([]),.s (([]:Str)),.l zja.pc ([]),.l cU ([]),.i 0,.s (([]:Str)),.l cI ([]),.l cI ([])])]) (fun j50 hr=>?_) (fun j50 hr=>?_)
   .refine rn tk 5 rfl<|bs 13 hr rfl (fun c51 hr=>?_) (fun c51 hr=>?_)
    .refine rn tk 7 rfl ?_;cases hr;exact jn _ rfl rfl rfl
    refine rn tk 7 rfl ?_;cases hr;exact jn _ rfl rfl rfl
   refine ac 19 hr rfl (fun c52 hr=>?_) (fun c52 hr=>?_)
   .refine rn tk 7 rfl<|ct hr (fun j53=>[(0,.ptr 90005000 0),(1,.fn (.func 59) [.ptr 90005000 0] []),(5,.i v45.1),(7,.i s47.1),(22,.hs 1006 0),(24,.i j53.1)]) (fun j53=>[(90005000,.cells [.l cU j53.2.b,.bo j53.2.bad]),(1006,.row 3 false 1 (List.map cI s47.2.2)),(3199999,.sus g0.w.heap.size ds31),(3100002,.hold (.ptr 2 0) (T31.getD 2 undef)),(3100004,.hold (.ptr 4 0) (T31.getD 4 undef)),(3100005,.hold (.ptr 5 0) (T31.getD 5 undef)),(5,.cells [.i v1.1,.i v3.1,.s (([]:Str)),.l zca.pc ([]),.s (([]:Str)),.l zja.pc ([]),.l cU ([]),.i v41.1,.s v43.1,.l cI ([]),.l cI ([])]),(4,.cells [.ptr 90005000 0]),(2,.cells [.i 0,.i 0,.s (([]:Str)),.l zca.pc ([]),.s (([]:Str)),.l zja.pc ([]),.l cU ([]),.i 0,.s (([]:Str)),.l cI ([]),.l cI ([])])]) (fun j53 hr jump35=>?_) (fun j53 hr=>?_)
    .refine il (fn:=f59) (args:=[.ptr 90005000 0]) 3500000 3599999 [(0,.ptr 90005000 0),(1,.fn (.func 59) [.ptr 90005000 0] []),(5,.i v45.1),(7,.i s47.1),(22,.hs 1006 0)] rfl ⟨func59,rfl,by kernel_rfl⟩ rfl rfl rfl fun T35 ds35=>?_
     refine rn tk 12 rfl<|wn tk rfl rfl rfl<|rn tk 3 rfl<|ac 10 hr rfl (fun c54 hr=>?_) (fun c54 hr=>?_)
     .refine rn tk 19 rfl ?_;refine ie tk [.i 0] [(0,.ptr 90005000 0),(1,.fn (.func 59) [.ptr 90005000 0] []),(5,.i v45.1),(7,.i s47.1),(22,.hs 1006 0)] [(1006,.row 3 false 1 (List.map cI s47.2.2)),(90005000,.cells [.pv (.sl (some true) []),.bo true]),(3199999,.sus g0.w.heap.size ds31),(3100002,.hold (.ptr 2 0) (T31.getD 2 undef)),(3100004,.hold (.ptr 4 0) (T31.getD 4 undef)),(3100005,.hold (.ptr 5 0) (T31.getD 5 undef)),(5,.cells [.i v1.1,.i v3.1,.s (([]:Str)),.l zca.pc ([]),.s (([]:Str)),.l zja.pc ([]),.l cU ([]),.i v41.1,.s v43.1,.l cI ([]),.l cI ([])]),(4,.cells [.ptr 90005000 0]),(2,.cells [.i 0,.i 0,.s (([]:Str)),.l zca.pc ([]),.s (([]:Str)),.l zja.pc ([]),.l cU ([]),.i 0,.s (([]:Str)),.l cI ([]),.l cI ([])])] (.inr rfl) rfl rfl rfl rfl ?_;cases hr;exact jump35 _ _ rfl rfl
     refine rn tk 14 rfl<|al1 hr (fun s55=>[(0,.ptr 90005000 0),(3,.pv (.b (.int .u64 s55.1))),(17,.i s55.2)]) (fun s55=>[(3599999,.sus g0.w.heap.size ds35),(3500000,.hold (.ptr 90005000 0) (T35.getD 0 undef)),(3500001,.hold (.fn (.func 59) [.ptr 90005000 0] []) (T35.getD 1 undef)),(3500005,.hold (.i v45.1) (T35.getD 5 undef)),(3500007,.hold (.i s47.1) (T35.getD 7 undef)),(3500022,.hold (.hs 1006 0) (T35.getD 22 undef)),(1006,.row 3 false 1 (List.map cI s47.2.2)),(90005000,.cells [.l cU s47.2.1.b,.bo s47.2.1.bad]),(3199999,.sus g0.w.heap.size ds31),(3100002,.hold (.ptr 2 0) (T31.getD 2 undef)),(3100004,.hold (.ptr 4 0) (T31.getD 4 undef)),(3100005,.hold (.ptr 5 0) (T31.getD 5 undef)),(5,.cells [.i v1.1,.i v3.1,.s (([]:Str)),.l zca.pc ([]),.s (([]:Str)),.l zja.pc ([]),.l cU ([]),.i v41.1,.s v43.1,.l cI ([]),.l cI ([])]),(4,.cells [.ptr 90005000 0]),(2,.cells [.i 0,.i 0,.s (([]:Str)),.l zca.pc ([]),.s (([]:Str)),.l zja.pc ([]),.l cU ([]),.i 0,.s (([]:Str)),.l cI ([]),.l cI ([])])]) (.exit 0) (fun b56=>[(0,.ptr 90005000 0),(3,.pv (.b (.int .u64 b56)))]) (fun b56=>[(3599999,.sus g0.w.heap.size ds35),(3500000,.hold (.ptr 90005000 0) (T35.getD 0 undef)),(3500001,.hold (.fn (.func 59) [.ptr 90005000 0] []) (T35.getD 1 undef)),(3500005,.hold (.i v45.1) (T35.getD 5 undef)),(3500007,.hold (.i s47.1) (T35.getD 7 undef)),(3500022,.hold (.hs 1006 0) (T35.getD 22 undef)),(1006,.row 3 false 1 (List.map cI s47.2.2)),(90005000,.cells [.l cU s47.2.1.b,.bo s47.2.1.bad]),(3199999,.sus g0.w.heap.size ds31),(3100002,.hold (.ptr 2 0) (T31.getD 2 undef)),(3100004,.hold (.ptr 4 0) (T31.getD 4 undef)),(3100005,.hold (.ptr 5 0) (T31.getD 5 undef)),(5,.cells [.i v1.1,.i v3.1,.s (([]:Str)),.l zca.pc ([]),.s (([]:Str)),.l zja.pc ([]),.l cU ([]),.i v41.1,.s v43.1,.l cI ([]),.l cI ([])]),(4,.cells [.ptr 90005000 0]),(2,.cells [.i 0,.i 0,.s (([]:Str)),.l zca.pc ([]),.s (([]:Str)),.l zja.pc ([]),.l cU ([]),.i 0,.s (([]:Str)),.l cI ([]),.l cI ([])])]) rfl rfl (fun s55 x57 hr=>?_) (fun b56 hr=>?_)
     .unfold ZXa at hr;refine rn tk 6 rfl<|ac 18 hr rfl (fun c58 hr=>?_) (fun c58 hr=>?_)
      .refine rn tk 17 rfl ?_;obtain ⟨v59,h60,hr⟩:=zaa hr;refine wi tk h60 rfl rfl rfl rfl rfl<|rn tk 1 rfl<|wq (WVa rfl zRa kKa) rfl rfl rfl<|rn tk 2 rfl ?_;obtain ⟨v61,h62,hr⟩:=zaa hr;refine wq (qIb rfl rfl (yva h62)) rfl rfl rfl<|wq (yxb rfl rfl) rfl rfl rfl<|rn tk 8 rfl ?_;cases hr;exact atc rfl rfl
      refine rn tk 2 rfl ?_;cases hr;exact ato rfl rfl rfl rfl
     refine rn tk 9 rfl ?_;obtain ⟨v63,h64,hr⟩:=zaa hr;refine wlL tk h64 rfl rfl rfl (fun _=>rfl) rfl<|rn tk 8 rfl<|wq (Vda rfl kKa zVa) rfl rfl rfl<|rn tk 4 rfl ?_;refine ie tk [.i ((w64 b56))] [(0,.ptr 90005000 0),(1,.fn (.func 59) [.ptr 90005000 0] []),(5,.i v45.1),(7,.i s47.1),(22,.hs 1006 0)] [(1006,.row 3 false 1 (List.map cI s47.2.2)),(90005000,.cells [.l cU v63,.bo s47.2.1.bad]),(3199999,.sus g0.w.heap.size ds31),(3100002,.hold (.ptr 2 0) (T31.getD 2 undef)),(3100004,.hold (.ptr 4 0) (T31.getD 4 undef)),(3100005,.hold (.ptr 5 0) (T31.getD 5 undef)),(5,.cells [.i v1.1,.i v3.1,.s (([]:Str)),.l zca.pc ([]),.s (([]:Str)),.l zja.pc ([]),.l cU ([]),.i v41.1,.s v43.1,.l cI ([]),.l cI ([])]),(4,.cells [.ptr 90005000 0]),(2,.cells [.i 0,.i 0,.s (([]:Str)),.l zca.pc ([]),.s (([]:Str)),.l zja.pc ([]),.l cU ([]),.i 0,.s (([]:Str)),.l cI ([]),.l cI ([])])] (.inr rfl) rfl rfl rfl rfl ?_;cases hr;exact jump35 _ _ rfl rfl
    refine wz cI ([j53.1]:List Int) tk rfl rfl (fun _=>rfl) rfl rfl rfl ?_;obtain ⟨v65,h66,hr⟩:=zaa hr;refine wa tk h66 rfl rfl rfl rfl (fun _=>rfl) rfl rfl<|rn tk 9 rfl ?_;cases hr;exact atc rfl rfl
   refine rn tk 2 rfl ?_;cases hr;exact ato rfl rfl rfl rfl
  refine rn tk 9 rfl ?_;refine ie tk [.hs 1006 0] [(2,.ptr 2 0),(4,.ptr 4 0),(5,.ptr 5 0)] [(90005000,.cells [.l cU b48.1.b,.bo b48.1.bad]),(1006,.row 3 false 1 (List.map cI b48.2)),(5,.cells [.i v1.1,.i v3.1,.s (([]:Str)),.l zca.pc ([]),.s (([]:Str)),.l zja.pc ([]),.l cU ([]),.i v41.1,.s v43.1,.l cI ([]),.l cI ([])]),(4,.cells [.ptr 90005000 0]),(2,.cells [.i 0,.i 0,.s (([]:Str)),.l zca.pc ([]),.s (([]:Str)),.l zja.pc ([]),.l cU ([]),.i 0,.s (([]:Str)),.l cI ([]),.l cI ([])])] (.inr rfl) rfl rfl rfl rfl (hO ?_);refine rn tk 2 rfl ?_;refine WSa (d:=59) (F:=cI) (l:=b48.2) rfl rfl (hO ?_);refine rn tk 7 rfl<|il (fn:=f104) (args:=[.ptr 90005000 0,.fn (.func 59) [.ptr 90005000 0] []]) 3600000 3699999 [(2,.ptr 2 0),(4,.ptr 4 0),(5,.ptr 5 0)] rfl ⟨func104,rfl,by kernel_rfl⟩ rfl rfl rfl fun T36 ds36=>?_
  refine rn tk 8 rfl ?_;obtain ⟨v67,h68,hr⟩:=zaa hr;refine wo (zXa (k:=9) (zFa b48.1 v67 h68) rfl rfl (zda rfl zoa)) rfl<|rn tk 6 rfl ?_;refine qna 2006 (d:=6) 3 1 rfl rfl rfl (hO ?_);refine rn tk 9 rfl<|al1 hr (fun s69=>[(0,.ptr 90005000 0),(1,.fn (.func 59) [.ptr 90005000 0] []),(5,.i v67.1),(6,.hs 2006 0),(7,.i s69.1)]) (fun s69=>[(2006,.row 3 false 1 (List.map cI s69.2.2)),(90005000,.cells [.l cU s69.2.1.b,.bo s69.2.1.bad]),(3699999,.sus g0.w.heap.size ds36),(3600002,.hold (.ptr 2 0) (T36.getD 2 undef)),(3600004,.hold (.ptr 4 0) (T36.getD 4 undef)),(3600005,.hold (.ptr 5 0) (T36.getD 5 undef)),(5,.cells [.i v1.1,.i v3.1,.s (([]:Str)),.l zca.pc ([]),.s (([]:Str)),.l zja.pc ([]),.l cU ([]),.i v41.1,.s v43.1,.l cI b48.2,.l cI ([])]),(4,.cells [.ptr 90005000 0]),(2,.cells [.i 0,.i 0,.s (([]:Str)),.l zca.pc ([]),.s (([]:Str)),.l zja.pc ([]),.l cU ([]),.i 0,.s (([]:Str)),.l cI ([]),.l cI ([])])]) (.exit 0) (fun b70=>[(6,.hs 2006 0)]) (fun b70=>[(90005000,.cells [.l cU b70.1.b,.bo b70.1.bad]),(2006,.row 3 false 1 (List.map cI b70.2)),(3699999,.sus g0.w.heap.size ds36),(3600002,.hold (.ptr 2 0) (T36.getD 2 undef)),(3600004,.hold (.ptr 4 0) (T36.getD 4 undef)),(3600005,.hold (.ptr 5 0) (T36.getD 5 undef)),(5,.cells [.i v1.1,.i v3.1,.s (([]:Str)),.l zca.pc ([]),.s (([]:Str)),.l zja.pc ([]),.l cU ([]),.i v41.1,.s v43.1,.l cI b48.2,.l cI ([])]),(4,.cells [.ptr 90005000 0]),(2,.cells [.i 0,.i 0,.s (([]:Str)),.l zca.pc ([]),.s (([]:Str)),.l zja.pc ([]),.l cU ([]),.i 0,.s (([]:Str)),.l cI ([]),.l cI ([])])]) rfl rfl (fun s69 x71 hr=>?_) (fun b70 hr=>?_)
  .unfold ZYa at hr;refine rn tk 1 rfl<|jb hr (fun j72=>[(0,.ptr 90005000 0),(1,.fn (.func 59) [.ptr 90005000 0] []),(5,.i v67.1),(6,.hs 2006 0),(7,.i s69.1),(19,.bo j72)]) (fun j72=>[(2006,.row 3 false 1 (List.map cI s69.2.2)),(90005000,.cells [.l cU s69.2.1.b,.bo s69.2.1.bad]),(3699999,.sus g0.w.heap.size ds36),(3600002,.hold (.ptr 2 0) (T36.getD 2 undef)),(3600004,.hold (.ptr 4 0) (T36.getD 4 undef)),(3600005,.hold (.ptr 5 0) (T36.getD 5 undef)),(5,.cells [.i v1.1,.i v3.1,.s (([]:Str)),.l zca.pc ([]),.s (([]:Str)),.l zja.pc ([]),.l cU ([]),.i v41.1,.s v43.1,.l cI b48.2,.l cI ([])]),(4,.cells [.ptr 90005000 0]),(2,.cells [.i 0,.i 0,.s (([]:Str)),.l zca.pc ([]),.s (([]:Str)),.l zja.pc ([]),.l cU ([]),.i 0,.s (([]:Str)),.l cI ([]),.l cI ([])])]) (fun j72 hr=>?_) (fun j72 hr=>?_)
   .refine rn tk 5 rfl<|bs 13 hr rfl (fun c73 hr=>?_) (fun c73 hr=>?_)
    .refine rn tk 7 rfl ?_;cases hr;exact jn _ rfl rfl rfl
    refine rn tk 7 rfl ?_;cases hr;exact jn _ rfl rfl rfl
   refine ac 19 hr rfl (fun c74 hr=>?_) (fun c74 hr=>?_)
   .refine rn tk 7 rfl<|ct hr (fun j75=>[(0,.ptr 90005000 0),(1,.fn (.func 59) [.ptr 90005000 0] []),(5,.i v67.1),(7,.i s69.1),(22,.hs 2006 0),(24,.i j75.1)]) (fun j75=>[(90005000,.cells [.l cU j75.2.b,.bo j75.2.bad]),(2006,.row 3 false 1 (List.map cI s69.2.2)),(3699999,.sus g0.w.heap.size ds36),(3600002,.hold (.ptr 2 0) (T36.getD 2 undef)),(3600004,.hold (.ptr 4 0) (T36.getD 4 undef)),(3600005,.hold (.ptr 5 0) (T36.getD 5 undef)),(5,.cells [.i v1.1,.i v3.1,.s (([]:Str)),.l zca.pc ([]),.s (([]:Str)),.l zja.pc ([]),.l cU ([]),.i v41.1,.s v43.1,.l cI b48.2,.l cI ([])]),(4,.cells [.ptr 90005000 0]),(2,.cells [.i 0,.i 0,.s (([]:Str)),.l zca.pc ([]),.s (([]:Str)),.l zja.pc ([]),.l cU ([]),.i 0,.s (([]:Str)),.l cI ([]),.l cI ([])])]) (fun j75 hr jump40=>?_) (fun j75 hr=>?_)
    .refine il (fn:=f59) (args:=[.ptr 90005000 0]) 4000000 4099999 [(0,.ptr 90005000 0),(1,.fn (.func 59) [.ptr 90005000 0] []),(5,.i v67.1),(7,.i s69.1),(22,.hs 2006 0)] rfl ⟨func59,rfl,by kernel_rfl⟩ rfl rfl rfl fun T40 ds40=>?_
     refine rn tk 12 rfl<|wn tk rfl rfl rfl<|rn tk 3 rfl<|ac 10 hr rfl (fun c76 hr=>?_) (fun c76 hr=>?_)
     .refine rn tk 19 rfl ?_;refine ie tk [.i 0] [(0,.ptr 90005000 0),(1,.fn (.func 59) [.ptr 90005000 0] []),(5,.i v67.1),(7,.i s69.1),(22,.hs 2006 0)] [(2006,.row 3 false 1 (List.map cI s69.2.2)),(90005000,.cells [.pv (.sl (some true) []),.bo true]),(3699999,.sus g0.w.heap.size ds36),(3600002,.hold (.ptr 2 0) (T36.getD 2 undef)),(3600004,.hold (.ptr 4 0) (T36.getD 4 undef)),(3600005,.hold (.ptr 5 0) (T36.getD 5 undef)),(5,.cells [.i v1.1,.i v3.1,.s (([]:Str)),.l zca.pc ([]),.s (([]:Str)),.l zja.pc ([]),.l cU ([]),.i v41.1,.s v43.1,.l cI b48.2,.l cI ([])]),(4,.cells [.ptr 90005000 0]),(2,.cells [.i 0,.i 0,.s (([]:Str)),.l zca.pc ([]),.s (([]:Str)),.l zja.pc ([]),.l cU ([]),.i 0,.s (([]:Str)),.l cI ([]),.l cI ([])])] (.inr rfl) rfl rfl rfl rfl ?_;cases hr;exact jump40 _ _ rfl rfl
     refine rn tk 14 rfl<|al1 hr (fun s77=>[(0,.ptr 90005000 0),(3,.pv (.b (.int .u64 s77.1))),(17,.i s77.2)]) (fun s77=>[(4099999,.sus g0.w.heap.size ds40),(4000000,.hold (.ptr 90005000 0) (T40.getD 0 undef)),(4000001,.hold (.fn (.func 59) [.ptr 90005000 0] []) (T40.getD 1 undef)),(4000005,.hold (.i v67.1) (T40.getD 5 undef)),(4000007,.hold (.i s69.1) (T40.getD 7 undef)),(4000022,.hold (.hs 2006 0) (T40.getD 22 undef)),(2006,.row 3 false 1 (List.map cI s69.2.2)),(90005000,.cells [.l cU s69.2.1.b,.bo s69.2.1.bad]),(3699999,.sus g0.w.heap.size ds36),(3600002,.hold (.ptr 2 0) (T36.getD 2 undef)),(3600004,.hold (.ptr 4 0) (T36.getD 4 undef)),(3600005,.hold (.ptr 5 0) (T36.getD 5 undef)),(5,.cells [.i v1.1,.i v3.1,.s (([]:Str)),.l zca.pc ([]),.s (([]:Str)),.l zja.pc ([]),.l cU ([]),.i v41.1,.s v43.1,.l cI b48.2,.l cI ([])]),(4,.cells [.ptr 90005000 0]),(2,.cells [.i 0,.i 0,.s (([]:Str)),.l zca.pc ([]),.s (([]:Str)),.l zja.pc ([]),.l cU ([]),.i 0,.s (([]:Str)),.l cI ([]),.l cI ([])])]) (.exit 0) (fun b78=>[(0,.ptr 90005000 0),(3,.pv (.b (.int .u64 b78)))]) (fun b78=>[(4099999,.sus g0.w.heap.size ds40),(4000000,.hold (.ptr 90005000 0) (T40.getD 0 undef)),(4000001,.hold (.fn (.func 59) [.ptr 90005000 0] []) (T40.getD 1 undef)),(4000005,.hold (.i v67.1) (T40.getD 5 undef)),(4000007,.hold (.i s69.1) (T40.getD 7 undef)),(4000022,.hold (.hs 2006 0) (T40.getD 22 undef)),(2006,.row 3 false 1 (List.map cI s69.2.2)),(90005000,.cells [.l cU s69.2.1.b,.bo s69.2.1.bad]),(3699999,.sus g0.w.heap.size ds36),(3600002,.hold (.ptr 2 0) (T36.getD 2 undef)),(3600004,.hold (.ptr 4 0) (T36.getD 4 undef)),(3600005,.hold (.ptr 5 0) (T36.getD 5 undef)),(5,.cells [.i v1.1,.i v3.1,.s (([]:Str)),.l zca.pc ([]),.s (([]:Str)),.l zja.pc ([]),.l cU ([]),.i v41.1,.s v43.1,.l cI b48.2,.l cI ([])]),(4,.cells [.ptr 90005000 0]),(2,.cells [.i 0,.i 0,.s (([]:Str)),.l zca.pc ([]),.s (([]:Str)),.l zja.pc ([]),.l cU ([]),.i 0,.s (([]:Str)),.l cI ([]),.l cI ([])])]) rfl rfl (fun s77 x79 hr=>?_) (fun b78 hr=>?_)
     .unfold Vla at hr;refine rn tk 6 rfl<|ac 18 hr rfl (fun c80 hr=>?_) (fun c80 hr=>?_)
      .refine rn tk 17 rfl ?_;obtain ⟨v81,h82,hr⟩:=zaa hr;refine wi tk h82 rfl rfl rfl rfl rfl<|rn tk 1 rfl<|wq (WVa rfl zRa kKa) rfl rfl rfl<|rn tk 2 rfl ?_;obtain ⟨v83,h84,hr⟩:=zaa hr;refine wq (qIb rfl rfl (yva h84)) rfl rfl rfl<|wq (yxb rfl rfl) rfl rfl rfl<|rn tk 8 rfl ?_;cases hr;exact atc rfl rfl
      refine rn tk 2 rfl ?_;cases hr;exact ato rfl rfl rfl rfl
     refine rn tk 9 rfl ?_;obtain ⟨v85,h86,hr⟩:=zaa hr;refine wlL tk h86 rfl rfl rfl (fun _=>rfl) rfl<|rn tk 8 rfl<|wq (Vda rfl kKa zVa) rfl rfl rfl<|rn tk 4 rfl ?_;refine ie tk [.i ((w64 b78))] [(0,.ptr 90005000 0),(1,.fn (.func 59) [.ptr 90005000 0] []),(5,.i v67.1),(7,.i s69.1),(22,.hs 2006 0)] [(2006,.row 3 false 1 (List.map cI s69.2.2)),(90005000,.cells [.l cU v85,.bo s69.2.1.bad]),(3699999,.sus g0.w.heap.size ds36),(3600002,.hold (.ptr 2 0) (T36.getD 2 undef)),(3600004,.hold (.ptr 4 0) (T36.getD 4 undef)),(3600005,.hold (.ptr 5 0) (T36.getD 5 undef)),(5,.cells [.i v1.1,.i v3.1,.s (([]:Str)),.l zca.pc ([]),.s (([]:Str)),.l zja.pc ([]),.l cU ([]),.i v41.1,.s v43.1,.l cI b48.2,.l cI ([])]),(4,.cells [.ptr 90005000 0]),(2,.cells [.i 0,.i 0,.s (([]:Str)),.l zca.pc ([]),.s (([]:Str)),.l zja.pc ([]),.l cU ([]),.i 0,.s (([]:Str)),.l cI ([]),.l cI ([])])] (.inr rfl) rfl rfl rfl rfl ?_;cases hr;exact jump40 _ _ rfl rfl
    refine wz cI ([j75.1]:List Int) tk rfl rfl (fun _=>rfl) rfl rfl rfl ?_;obtain ⟨v87,h88,hr⟩:=zaa hr;refine wa tk h88 rfl rfl rfl rfl (fun _=>rfl) rfl rfl<|rn tk 9 rfl ?_;cases hr;exact atc rfl rfl
   refine rn tk 2 rfl ?_;cases hr;exact ato rfl rfl rfl rfl
  refine rn tk 9 rfl ?_;refine ie tk [.hs 2006 0] [(2,.ptr 2 0),(4,.ptr 4 0),(5,.ptr 5 0)] [(90005000,.cells [.l cU b70.1.b,.bo b70.1.bad]),(2006,.row 3 false 1 (List.map cI b70.2)),(5,.cells [.i v1.1,.i v3.1,.s (([]:Str)),.l zca.pc ([]),.s (([]:Str)),.l zja.pc ([]),.l cU ([]),.i v41.1,.s v43.1,.l cI b48.2,.l cI ([])]),(4,.cells [.ptr 90005000 0]),(2,.cells [.i 0,.i 0,.s (([]:Str)),.l zca.pc ([]),.s (([]:Str)),.l zja.pc ([]),.l cU ([]),.i 0,.s (([]:Str)),.l cI ([]),.l cI ([])])] (.inr rfl) rfl rfl rfl rfl (hO ?_);refine rn tk 1 rfl ?_;refine WSa (d:=65) (F:=cI) (l:=b70.2) rfl rfl (hO ?_);refine rn tk 2 rfl ?_;cases hr;exact jn _ rfl rfl rfl
 refine jb hr (fun j89=>[(2,.ptr 2 0),(3,.bo j89)]) (fun j89=>[(2,.cells (zN1 j5.2))]) (fun j89 hr=>?_) (fun j89 hr=>?_)
 .refine k2a ((!j5.1.bad)) (fun c90=>?_) (fun c90=>?_)
  .replace hr:=yza c90 hr
   refine k2a (((j5.1.b.length:Int)==0)) (fun c91=>?_) (fun c91=>?_)
   .replace hr:=yza c91 hr
    obtain ⟨v92,h93,hr⟩:=zaa hr;obtain ⟨v94,h95,hr⟩:=zaa hr;refine drX 20 21 4 8 [18,19] [(86,.bo ((!v94))),(85,.bo ((!v94))),(84,.bo v94),(83,.agg [.i v92.Code,.i v92.Index]),(82,.agg (zN1 j5.2)),(81,.bo true),(80,.bo (((j5.1.b.length:Int)==0))),(79,.bo (((j5.1.b.length:Int)==0))),(78,.i ((j5.1.b.length:Int))),(77,.l cU j5.1.b),(76,.ptr 90005000 0),(75,.ptr 90005000 0),(74,.ptr 90005000 0),(73,.bo true),(72,.bo ((!j5.1.bad))),(71,.bo j5.1.bad),(70,.ptr 90005000 1),(69,.ptr 90005000 0),(68,.ptr 90005000 0),(67,.agg (zN1 j5.2))] [(2,.ptr 2 0),(86,.bo ((!v94)))] [(90005000,.cells [.l cU j5.1.b,.bo j5.1.bad]),(5,.cells (zN1 j5.2)),(4,.cells [.ptr 90005000 0]),(2,.cells (zN1 j5.2))] tk mixed (by kernel_rfl) rfl rfl rfl (pqX tk rfl (.plain rfl) (pqX tk rfl (.plain rfl) (pqX tk rfl (.plain rfl) (pqX tk rfl (.plain rfl) (pqX tk rfl (.plain rfl) (pqX tk rfl (.plain rfl) (.run (.plain rfl) (qhb c90 (zua k1a)) (pqX tk rfl (.yes (d:=73) rfl rfl rfl rfl) (pqX tk rfl (.yes (d:=73) rfl rfl rfl rfl) (pqX tk rfl (.yes (d:=73) rfl rfl rfl rfl) (pqX tk rfl (.yes (d:=73) rfl rfl rfl rfl) (.run (.yes (d:=73) rfl rfl rfl rfl) (zua (qea (f:=cU) rfl zqa.u)) (pqX tk rfl (.yes (d:=73) rfl rfl rfl rfl) (pqX tk rfl (.plain rfl) (.run (.plain rfl) (qhb c91 (zua k1a)) (pqX tk rfl (.yes (d:=81) rfl rfl rfl rfl) (.run (.yes (d:=81) rfl rfl rfl rfl) (kta (jKa j5.2 v92 h93) rfl) (.run (.yes (d:=81) rfl rfl rfl rfl) (kta (zTa v92 v94 h95) rfl) (pqX tk rfl (.yes (d:=81) rfl rfl rfl rfl) (pqX tk rfl (.plain rfl) .nil)))))))))))))))))))) rfl rfl rfl rfl (by kernel_rfl)<|rn tk 2 rfl ?_;cases hr;exact jn _ rfl rfl rfl
   replace hr:=yAa c91 hr
   refine drX 20 21 4 8 [18,19] [(86,.bo false),(85,.tup []),(84,.tup []),(83,.tup []),(82,.tup []),(81,.bo false),(80,.bo (((j5.1.b.length:Int)==0))),(79,.bo (((j5.1.b.length:Int)==0))),(78,.i ((j5.1.b.length:Int))),(77,.l cU j5.1.b),(76,.ptr 90005000 0),(75,.ptr 90005000 0),(74,.ptr 90005000 0),(73,.bo true),(72,.bo ((!j5.1.bad))),(71,.bo j5.1.bad),(70,.ptr 90005000 1),(69,.ptr 90005000 0),(68,.ptr 90005000 0),(67,.agg (zN1 j5.2))] [(2,.ptr 2 0),(86,.bo false)] [(90005000,.cells [.l cU j5.1.b,.bo j5.1.bad]),(5,.cells (zN1 j5.2)),(4,.cells [.ptr 90005000 0]),(2,.cells (zN1 j5.2))] tk mixed (by kernel_rfl) rfl rfl rfl (pqX tk rfl (.plain rfl) (pqX tk rfl (.plain rfl) (pqX tk rfl (.plain rfl) (pqX tk rfl (.plain rfl) (pqX tk rfl (.plain rfl) (pqX tk rfl (.plain rfl) (.run (.plain rfl) (qhb c90 (zua k1a)) (pqX tk rfl (.yes (d:=73) rfl rfl rfl rfl) (pqX tk rfl (.yes (d:=73) rfl rfl rfl rfl) (pqX tk rfl (.yes (d:=73) rfl rfl rfl rfl) (pqX tk rfl (.yes (d:=73) rfl rfl rfl rfl) (.run (.yes (d:=73) rfl rfl rfl rfl) (zua (qea (f:=cU) rfl zqa.u)) (pqX tk rfl (.yes (d:=73) rfl rfl rfl rfl) (pqX tk rfl (.plain rfl) (.run (.plain rfl) (qhb c91 (zua k1a)) (.skip (.no (d:=81) rfl rfl rfl rfl) (.skip (.no (d:=81) rfl rfl rfl rfl) (.skip (.no (d:=81) rfl rfl rfl rfl) (.skip (.no (d:=81) rfl rfl rfl rfl) (pqX tk rfl (.plain rfl) .nil)))))))))))))))))))) rfl rfl rfl rfl (by kernel_rfl)<|rn tk 2 rfl ?_;cases hr;exact jn _ rfl rfl rfl
  replace hr:=yAa c90 hr
  refine drX 20 21 4 8 [18,19] [(86,.bo false),(85,.tup []),(84,.tup []),(83,.tup []),(82,.tup []),(81,.bo false),(80,.bo false),(79,.tup []),(78,.tup []),(77,.tup []),(76,.tup []),(75,.tup []),(74,.tup []),(73,.bo false),(72,.bo ((!j5.1.bad))),(71,.bo j5.1.bad),(70,.ptr 90005000 1),(69,.ptr 90005000 0),(68,.ptr 90005000 0),(67,.agg (zN1 j5.2))] [(2,.ptr 2 0),(86,.bo false)] [(90005000,.cells [.l cU j5.1.b,.bo j5.1.bad]),(5,.cells (zN1 j5.2)),(4,.cells [.ptr 90005000 0]),(2,.cells (zN1 j5.2))] tk mixed (by kernel_rfl) rfl rfl rfl (pqX tk rfl (.plain rfl) (pqX tk rfl (.plain rfl) (pqX tk rfl (.plain rfl) (pqX tk rfl (.plain rfl) (pqX tk rfl (.plain rfl) (pqX tk rfl (.plain rfl) (.run (.plain rfl) (qhb c90 (zua k1a)) (.skip (.no (d:=73) rfl rfl rfl rfl) (.skip (.no (d:=73) rfl rfl rfl rfl) (.skip (.no (d:=73) rfl rfl rfl rfl) (.skip (.no (d:=73) rfl rfl rfl rfl) (.skip (.no (d:=73) rfl rfl rfl rfl) (.skip (.no (d:=73) rfl rfl rfl rfl) (pqX tk rfl (.plain rfl) (pqX tk rfl (.plain rfl) (.skip (.no (d:=81) rfl rfl rfl rfl) (.skip (.no (d:=81) rfl rfl rfl rfl) (.skip (.no (d:=81) rfl rfl rfl rfl) (.skip (.no (d:=81) rfl rfl rfl rfl) (pqX tk rfl (.plain rfl) .nil)))))))))))))))))))) rfl rfl rfl rfl (by kernel_rfl)<|rn tk 2 rfl ?_;cases hr;exact jn _ rfl rfl rfl
 refine rn tk 1 rfl ?_;cases hr;exact kr tk (.inr rfl) rfl rfl
theorem JDa(a0:List UInt8)(r:(List zha) × Int × zpa)(hr:jja a0=some r):Run prog 13 [.l cU a0] (.tup [.l zha.pc r.1,.i r.2.1,.agg [.i r.2.2.Code,.i r.2.2.Index]]):=by
 unfold jja at hr;refine rf (fn:=f13) ⟨func13,rfl,by kernel_rfl⟩ rfl (fun _=>rfl) fun g0 hg=>?_
 refine rn tk 11 rfl<|wn tk rfl rfl rfl<|rn tk 3 rfl<|ac 11 hr rfl (fun c1 hr=>?_) (fun c1 hr=>?_)
 .refine rn tk 2 rfl ?_;obtain ⟨v2,h3,hr⟩:=zaa hr;refine cl (zka _ _ _ h3) rfl rfl<|rn tk 7 rfl ?_;cases hr;exact kr tk (.inr rfl) rfl rfl
 refine rn tk 5 rfl ?_;refine jqa 1005 (o:=5) (j:=0) 35 11 rfl rfl rfl rfl (hO ?_);refine rn tk 8 rfl<|jb hr (fun j4=>[(4,.ptr 4 0),(5,.ptr 5 0),(6,.ptr 6 0)]) (fun j4=>[(6,.cells [.i j4.1]),(1005,.row 35 false 11 (List.map zha.pc j4.2)),(5,.cells [.hs 1005 0]),(4,.cells [.i 0,.i 0])]) (fun j4 hr=>?_) (fun j4 hr=>?_)
 .refine rn tk 3 rfl<|il (fn:=f36) (args:=[.l cU a0]) 600000 699999 [(4,.ptr 4 0),(5,.ptr 5 0),(6,.ptr 6 0)] rfl ⟨func36,rfl,by kernel_rfl⟩ rfl rfl rfl fun T6 ds6=>?_
  refine rn tk 13 rfl ?_;refine ie tk [.fn (.func 57) [] [.ptr 1 0]] [(4,.ptr 4 0),(5,.ptr 5 0),(6,.ptr 6 0)] [(1,.cells [.l cU a0]),(6,.cells [.i 0]),(1005,.row 35 false 11 (List.map zha.pc (([]:List zha)))),(5,.cells [.hs 1005 0]),(4,.cells [.i 0,.i 0])] (.inr rfl) rfl rfl rfl rfl (hO ?_);refine rn tk 3 rfl ?_;refine vYb (fn0:=f57) 700000 799998 799999 [(4,.ptr 4 0),(5,.ptr 5 0),(6,.ptr 6 0),(14,.fn (.func 57) [] [.ptr 1 0])] rfl rfl rfl ⟨func57,rfl,by kernel_rfl⟩ rfl rfl rfl rfl rfl (.cons rfl (.cons rfl (.cons rfl (.cons rfl .nil)))) fun T7 rb7 L7 ds7 hT7 hLs7 hLp7 hLt7 hLq7 hLa7 hLb7=>hB mono_itr ?_
  refine rn tk 6 rfl<|al2 hr (fun s5=>[(0,.fn (.yield rb7) [] []),(1,.ptr 1 0),(3,.i s5.1)]) (fun s5=>[(799999,.sus g0.w.heap.size ds7),(799998,.lp rb7 L7),(700004,.hold (.ptr 4 0) (T7.getD 4 undef)),(700005,.hold (.ptr 5 0) (T7.getD 5 undef)),(700006,.hold (.ptr 6 0) (T7.getD 6 undef)),(700014,.hold (.fn (.func 57) [] [.ptr 1 0]) (T7.getD 14 undef)),(1,.cells [.l cU a0]),(6,.cells [.i s5.2.1]),(1005,.row 35 false 11 (List.map zha.pc s5.2.2)),(5,.cells [.hs 1005 0]),(4,.cells [.i 0,.i 0])]) .ret (fun b6=>[]) (fun b6=>[(799999,.sus g0.w.heap.size ds7),(799998,.lp rb7 L7),(700004,.hold (.ptr 4 0) (T7.getD 4 undef)),(700005,.hold (.ptr 5 0) (T7.getD 5 undef)),(700006,.hold (.ptr 6 0) (T7.getD 6 undef)),(700014,.hold (.fn (.func 57) [] [.ptr 1 0]) (T7.getD 14 undef)),(1,.cells [.l cU a0]),(6,.cells [.i b6.1]),(1005,.row 35 false 11 (List.map zha.pc b6.2)),(5,.cells [.hs 1005 0]),(4,.cells [.i 0,.i 0])]) .ret (fun b7=>[]) (fun b7=>[(799999,.sus g0.w.heap.size ds7),(799998,.lp rb7 ((stop L7 (.exit 0)))),(700004,.hold (.ptr 4 0) (T7.getD 4 undef)),(700005,.hold (.ptr 5 0) (T7.getD 5 undef)),(700006,.hold (.ptr 6 0) (T7.getD 6 undef)),(700014,.hold (.fn (.func 57) [] [.ptr 1 0]) (T7.getD 14 undef)),(1,.cells [.l cU a0]),(6,.cells [.i b7.1]),(1005,.row 35 false 11 (List.map zha.pc b7.2)),(5,.cells [.hs 1005 0]),(4,.cells [.i 0,.i 0])]) rfl rfl (fun s5 x9 hr=>?_) (fun b6 hr=>?_) (fun b7 hr=>?_)
  .unfold vsa at hr;refine rn tk 5 rfl ?_;obtain ⟨v10,h11,hr⟩:=zaa hr;refine wlL tk h11 rfl rfl rfl (fun _=>rfl) rfl<|rn tk 1 rfl<|wo (K3a (k:=13) 90005000 rfl rfl rfl rfl rfl) rfl<|rn tk 6 rfl ?_;obtain ⟨v12,h13,hr⟩:=zaa hr;refine wo (zXa (k:=15) (kna ((zia.mk v10 false)) v12 h13) rfl rfl (zda rfl zoa)) rfl<|rn tk 6 rfl ?_;obtain ⟨v14,h15,hr⟩:=zaa hr;refine wo (zXa (k:=17) (zFa v12.2 v14 h15) rfl rfl (zda rfl zoa)) rfl<|rn tk 11 rfl<|ac 21 hr rfl (fun c16 hr=>?_) (fun c16 hr=>?_)
   .refine rn tk 3 rfl ?_;cases hr;exact ato rfl rfl rfl rfl
   refine rn tk 5 rfl<|wo (Qpa (d:=24) rfl rfl (Yaa (k:=0) rfl kaa zqa zRa)) rfl ?_;obtain ⟨v17,h18,hr⟩:=zaa hr;refine cl (JCa _ _ h18) rfl rfl<|rn tk 3 rfl<|wo (wga (k:=6) 1006 rfl kxa (.inr ⟨rfl,rfl⟩) rfl rfl rfl) rfl<|rn tk 7 rfl ?_;obtain ⟨v19,h20,hr⟩:=zaa hr;refine cl (Kea _ _ h20) rfl rfl<|rn tk 4 rfl<|jb hr (fun j21=>[(0,.fn (.yield rb7) [] []),(1,.ptr 1 0),(3,.i s5.1),(6,.ptr 1006 0),(8,.l cU v19),(39,.bo j21)]) (fun j21=>[(1006,.cells (zN1 v17.1)),(799999,.sus g0.w.heap.size ds7),(799998,.lp rb7 L7),(700004,.hold (.ptr 4 0) (T7.getD 4 undef)),(700005,.hold (.ptr 5 0) (T7.getD 5 undef)),(700006,.hold (.ptr 6 0) (T7.getD 6 undef)),(700014,.hold (.fn (.func 57) [] [.ptr 1 0]) (T7.getD 14 undef)),(1,.cells [.l cU a0]),(6,.cells [.i s5.2.1]),(1005,.row 35 false 11 (List.map zha.pc s5.2.2)),(5,.cells [.hs 1005 0]),(4,.cells [.i 0,.i 0])]) (fun j21 hr=>?_) (fun j21 hr=>?_)
   .refine rn tk 4 rfl<|bs 32 hr rfl (fun c22 hr=>?_) (fun c22 hr=>?_)
    .refine rn tk 8 rfl ?_;cases hr;exact jn _ rfl rfl rfl
    refine rn tk 2 rfl ?_;obtain ⟨v23,h24,hr⟩:=zaa hr;refine ug rfl rfl rfl<|wlL tk h24 rfl rfl rfl (fun _=>rfl) rfl<|rn tk 1 rfl ?_;obtain ⟨v25,h26,hr⟩:=zaa hr;refine ug rfl rfl rfl<|cl (QUa _ _ _ h26) rfl rfl<|rn tk 3 rfl ?_;cases hr;exact jn _ rfl rfl rfl
   refine ac 39 hr rfl (fun c27 hr=>?_) (fun c27 hr=>?_)
   .refine rn tk 3 rfl ?_;cases hr;exact ato rfl rfl rfl rfl
   refine rn tk 6 rfl<|wn tk rfl rfl rfl<|rn tk 9 rfl ?_;refine qtb (ps:=[15,16]) (args:=[.agg (zN1 v17.1),.i ((w64 (s5.1+(v19.length:Int))))]) 700000 1000000 799998 1099999 [(4,.ptr 4 0),(5,.ptr 5 0),(6,.ptr 6 0),(14,.fn (.func 57) [] [.ptr 1 0])] [(0,.fn (.yield rb7) [] []),(1,.ptr 1 0),(3,.i ((w64 (s5.1+(v19.length:Int)))))] (zBa rfl) rfl rfl hLs7 hLp7 hLt7 hLq7 hLa7 hLb7 hT7 rfl rfl rfl rfl (.cons rfl (.cons rfl (.cons rfl .nil))) (.cons rfl (.cons rfl (.cons rfl (.cons rfl .nil)))) fun T10 ds10 hT10=>hB mono_asg ?_
   refine rn tk 9 rfl ?_;refine asgK q1a jga rfl (hB mono_rnd ?_);refine rn tk 5 rfl<|wz zha.pc ([v17.1]:List zha) tk rfl rfl (fun _=>rfl) rfl rfl rfl ?_;obtain ⟨v28,h29,hr⟩:=zaa hr;refine wa tk h29 rfl rfl rfl rfl (fun _=>rfl) rfl rfl<|rn tk 12 rfl<|wnh tk rfl rfl rfl rfl<|rn tk 3 rfl<|ac 24 hr rfl (fun c30 hr=>?_) (fun c30 hr=>?_)
   .refine rn tk 2 rfl ?_;refine rndK (fr' :=[]) (fr'' :=[(0,.fn (.yield rb7) [] []),(1,.ptr 1 0),(3,.i ((w64 (s5.1+(v19.length:Int)))))]) (σ'' :=[(7,.cells (zN1 v17.1)),(1006,.cells (zN1 v17.1)),(799999,.sus g0.w.heap.size ds7),(799998,.lp rb7 ((stop L7 (.exit 0)))),(700004,.hold (.ptr 4 0) (T7.getD 4 undef)),(700005,.hold (.ptr 5 0) (T7.getD 5 undef)),(700006,.hold (.ptr 6 0) (T7.getD 6 undef)),(700014,.hold (.fn (.func 57) [] [.ptr 1 0]) (T7.getD 14 undef)),(1,.cells [.l cU a0]),(6,.cells [.i ((w64 (s5.1+(v19.length:Int))))]),(1005,.row 35 false 11 (List.map zha.pc v28)),(5,.cells [.hs 1005 0]),(4,.cells [.i 0,.i 0])]) (.exit 0) jga rfl (.cons rfl (.cons rfl (.cons rfl .nil))) rfl (zda rfl (zda rfl (zda rfl (zda rfl (zda rfl (zda rfl (zda rfl (zda rfl (zda rfl (zda rfl (zda rfl (zda rfl (zda rfl zoa))))))))))))) (hO ?_);refine rn tk 6 rfl ?_;cases hr;exact ato rfl rfl rfl rfl
   refine rn tk 2 rfl ?_;refine rndK (fr' :=[]) (fr'' :=[(0,.fn (.yield rb7) [] []),(1,.ptr 1 0),(3,.i ((w64 (s5.1+(v19.length:Int)))))]) (σ'' :=[(7,.cells (zN1 v17.1)),(1006,.cells (zN1 v17.1)),(799999,.sus g0.w.heap.size ds7),(799998,.lp rb7 L7),(700004,.hold (.ptr 4 0) (T7.getD 4 undef)),(700005,.hold (.ptr 5 0) (T7.getD 5 undef)),(700006,.hold (.ptr 6 0) (T7.getD 6 undef)),(700014,.hold (.fn (.func 57) [] [.ptr 1 0]) (T7.getD 14 undef)),(1,.cells [.l cU a0]),(6,.cells [.i ((w64 (s5.1+(v19.length:Int))))]),(1005,.row 35 false 11 (List.map zha.pc v28)),(5,.cells [.hs 1005 0]),(4,.cells [.i 0,.i 0])]) .off jga rfl (.cons rfl (.cons rfl (.cons rfl .nil))) rfl (zda rfl (zda rfl (zda rfl (zda rfl (zda rfl (zda rfl (zda rfl (zda rfl (zda rfl (zda rfl (zda rfl (zda rfl (zda rfl zoa))))))))))))) (hO ?_);refine rn tk 6 rfl ?_;cases hr;exact atc rfl rfl
  .refine rn tk 1 rfl ?_;refine itrK (fr' :=[]) (L' :=L7) (fr'' :=[(4,.ptr 4 0),(5,.ptr 5 0),(6,.ptr 6 0),(14,.fn (.func 57) [] [.ptr 1 0])]) (σ'' :=[(1,.cells [.l cU a0]),(6,.cells [.i b6.1]),(1005,.row 35 false 11 (List.map zha.pc b6.2)),(5,.cells [.hs 1005 0]),(4,.cells [.i 0,.i 0])]) (.inl rfl) jga rfl (.cons rfl (.cons rfl (.cons rfl (.cons rfl .nil)))) rfl (zda rfl (zda rfl (zda rfl (zda rfl (zda rfl zoa))))) rfl<|.off (hA ?_);refine rn tk 1 rfl ?_;cases hr;exact jn _ rfl rfl rfl
  refine rn tk 1 rfl ?_;refine itrK (fr' :=[]) (L' :=(stop L7 (.exit 0))) (fr'' :=[(4,.ptr 4 0),(5,.ptr 5 0),(6,.ptr 6 0),(14,.fn (.func 57) [] [.ptr 1 0])]) (σ'' :=[(1,.cells [.l cU a0]),(6,.cells [.i b7.1]),(1005,.row 35 false 11 (List.map zha.pc b7.2)),(5,.cells [.hs 1005 0]),(4,.cells [.i 0,.i 0])]) (.inl rfl) jga rfl (.cons rfl (.cons rfl (.cons rfl (.cons rfl .nil)))) rfl (zda rfl (zda rfl (zda rfl (zda rfl (zda rfl zoa))))) rfl<|.jump (hC ?_);refine rn tk 2 rfl ?_;cases hr;exact jn _ rfl rfl rfl
 refine rn tk 1 rfl ?_;obtain ⟨v31,h32,hr⟩:=zaa hr;refine dr 4 [(2,.hs 1005 0),(27,.agg [.i v31.Code,.i v31.Index]),(26,.i j4.1),(25,.hs 1005 0)] mixed (by kernel_rfl) rfl rfl (pq tk rfl (.plain rfl) (pq tk rfl (.plain rfl) (.run (.plain rfl) (kta (z4a v31 h32) rfl) (pq tk rfl (.plain rfl) .nil)))) rfl<|rn tk 4 rfl ?_;refine vNa (d:=2) (F:=zha.pc) (l:=j4.2) rfl rfl (hC ?_);refine rn tk 1 rfl ?_;cases hr;exact kr tk (.inr rfl) rfl rfl
theorem wBa(a0:List zja)(r:List zja)(hr:kua a0=some r):Run prog 109 [.l zja.pc a0] (.l zja.pc r):=by
 unfold kua at hr;refine rf (fn:=f109) ⟨func109,rfl,by kernel_rfl⟩ rfl (fun _=>rfl) fun g0 hg=>?_
 refine rn tk 9 rfl ?_;refine Zia (d:=3) (F:=zja.pc) (l:=a0) rfl rfl rfl k9a (fun c1=>hO ?_) (hO ?_)
 .replace hr:=Q6a c1 hr
  refine rn tk 10 rfl ?_;cases hr;exact kr tk (.inr rfl) rfl rfl
 replace hr:=Q7a hr
 refine rn tk 7 rfl<|wo (Kta (k:=5) rfl k9a qka) rfl<|rn tk 1 rfl ?_;obtain ⟨v2,h3,hr⟩:=zaa hr;refine wo (yCa (k:=7) (F:=zja.pc) (xs:=a0) (lim:=4398046511104) 1002 rfl rfl rfl k9a qka rfl rfl (fun _=>rfl) rfl rfl rfl h3) rfl<|rn tk 3 rfl ?_;refine yua 1002 rfl (hC ?_);refine vNa (d:=2) (F:=zja.pc) (l:=v2) rfl rfl (hC ?_);refine rn tk 1 rfl ?_;cases hr;exact kr tk (.inr rfl) rfl rfl
theorem vTa(a0:kia)(r:kia)(hr:qla a0=some r):Run prog 69 [.agg (zN2 a0)] (.agg (zN2 r)):=by
 unfold qla at hr;refine rf (fn:=f69) ⟨func69,rfl,by kernel_rfl⟩ rfl (fun _=>rfl) fun g0 hg=>?_
 refine rn tk 11 rfl<|ct hr (fun j1=>[(1,.ptr 1 0),(2,.ptr 2 0),(6,.l zca.pc j1)]) (fun j1=>[(2,.cells [.s (([]:Str)),.l zca.pc ([]),.s (([]:Str)),.l zja.pc ([]),.l cU ([])]),(1,.cells (zN2 a0))]) (fun j1 hr jump1=>?_) (fun j1 hr=>?_)
 .refine il (fn:=f108) (args:=[.l zca.pc a0.Envelope.To]) 100000 199999 [(1,.ptr 1 0),(2,.ptr 2 0)] rfl ⟨func108,rfl,by kernel_rfl⟩ rfl rfl rfl fun T1 ds1=>?_
  refine rn tk 9 rfl ?_;refine Zia (d:=3) (F:=zca.pc) (l:=a0.Envelope.To) rfl rfl rfl zYa (fun c2=>hO ?_) (hO ?_)
  .replace hr:=Q6a c2 hr
   refine rn tk 10 rfl ?_;refine ie tk [.pv (.sl (some true) [])] [(1,.ptr 1 0),(2,.ptr 2 0)] [(2,.cells [.s (([]:Str)),.pv (.sl (some true) []),.s (([]:Str)),.pv (.sl (some true) []),.pv (.sl (some true) [])]),(1,.cells (zN2 a0))] (.inr rfl) rfl rfl rfl rfl ?_;cases hr;exact jump1 _ _ rfl rfl
  replace hr:=Q7a hr
  refine rn tk 7 rfl<|wo (Kta (k:=5) rfl zYa zNa) rfl<|rn tk 1 rfl ?_;obtain ⟨v3,h4,hr⟩:=zaa hr;refine wo (yCa (k:=7) (F:=zca.pc) (xs:=a0.Envelope.To) (lim:=5864062014805) 1002 rfl rfl rfl zYa zNa rfl rfl (fun _=>rfl) rfl rfl rfl h4) rfl<|rn tk 3 rfl ?_;refine yua 1002 rfl (hC ?_);refine vNa (d:=2) (F:=zca.pc) (l:=v3) rfl rfl (hC ?_);refine rn tk 1 rfl ?_;refine ie tk [.l zca.pc v3] [(1,.ptr 1 0),(2,.ptr 2 0)] [(1002,.row 78 false 2 (List.map zca.pc v3)),(2,.cells [.s (([]:Str)),.pv (.sl (some true) []),.s (([]:Str)),.pv (.sl (some true) []),.pv (.sl (some true) [])]),(1,.cells (zN2 a0))] (.inr rfl) rfl rfl rfl rfl ?_;cases hr;exact jump1 _ _ rfl rfl
 refine rn tk 6 rfl ?_;obtain ⟨v5,h6,hr⟩:=zaa hr;refine dr 7 [(15,.l cU a0.Message.Body),(14,.ptr 1 4),(13,.ptr 1 3),(12,.l zja.pc v5),(11,.l zja.pc a0.Message.Fields),(10,.ptr 1 3),(9,.ptr 1 3)] mixed (by kernel_rfl) rfl rfl (pq tk rfl (.plain rfl) (pq tk rfl (.plain rfl) (pq tk rfl (.plain rfl) (.run (.plain rfl) (kta (wBa a0.Message.Fields v5 h6) rfl) (pq tk rfl (.plain rfl) (pq tk rfl (.plain rfl) (pq tk rfl (.plain rfl) .nil))))))) rfl<|ct hr (fun j7=>[(1,.ptr 1 0),(2,.ptr 2 0),(12,.l zja.pc v5),(16,.l cU j7)]) (fun j7=>[(2,.cells [.s (([]:Str)),.l zca.pc ([]),.s (([]:Str)),.l zja.pc ([]),.l cU ([])]),(1,.cells [.s a0.Envelope.From,.l zca.pc j1,.s a0.Envelope.Id,.l zja.pc a0.Message.Fields,.l cU a0.Message.Body])]) (fun j7 hr jump2=>?_) (fun j7 hr=>?_)
 .refine il (fn:=f110) (args:=[.l cU a0.Message.Body]) 200000 299999 [(1,.ptr 1 0),(2,.ptr 2 0),(12,.l zja.pc v5)] rfl ⟨func110,rfl,by kernel_rfl⟩ rfl rfl rfl fun T2 ds2=>?_
  refine rn tk 9 rfl ?_;refine Zia (d:=3) (F:=cU) (l:=a0.Message.Body) rfl rfl rfl zqa (fun c8=>hO ?_) (hO ?_)
  .replace hr:=Q6a c8 hr
   refine rn tk 10 rfl ?_;refine ie tk [.pv (.sl (some true) [])] [(1,.ptr 1 0),(2,.ptr 2 0),(12,.l zja.pc v5)] [(2,.cells [.s (([]:Str)),.l zca.pc ([]),.s (([]:Str)),.l zja.pc ([]),.l cU ([])]),(1,.cells [.s a0.Envelope.From,.l zca.pc j1,.s a0.Envelope.Id,.l zja.pc a0.Message.Fields,.l cU a0.Message.Body])] (.inr rfl) rfl rfl rfl rfl ?_;cases hr;exact jump2 _ _ rfl rfl
  replace hr:=Q7a hr
  refine rn tk 7 rfl<|wo (Kta (k:=5) rfl zqa zRa) rfl<|rn tk 1 rfl ?_;obtain ⟨v9,h10,hr⟩:=zaa hr;refine wo (yCa (k:=7) (F:=cU) (xs:=a0.Message.Body) (lim:=140737488355328) 1002 rfl rfl rfl zqa zRa rfl rfl (fun _=>rfl) rfl rfl rfl h10) rfl<|rn tk 3 rfl ?_;refine yua 1002 rfl (hC ?_);refine vNa (d:=2) (F:=cU) (l:=v9) rfl rfl (hC ?_);refine rn tk 1 rfl ?_;refine ie tk [.l cU v9] [(1,.ptr 1 0),(2,.ptr 2 0),(12,.l zja.pc v5)] [(1002,.row 5 false 1 (List.map cU v9)),(2,.cells [.s (([]:Str)),.l zca.pc ([]),.s (([]:Str)),.l zja.pc ([]),.l cU ([])]),(1,.cells [.s a0.Envelope.From,.l zca.pc j1,.s a0.Envelope.Id,.l zja.pc a0.Message.Fields,.l cU a0.Message.Body])] (.inr rfl) rfl rfl rfl rfl ?_;cases hr;exact jump2 _ _ rfl rfl
 refine rn tk 12 rfl ?_;cases hr;exact kr tk (.inr rfl) rfl rfl
theorem ZDa(a0:zba)(r:Bool)(hr:vla a0=some r):Run prog 76 [.agg (zN3 a0)] (.bo r):=by
 unfold vla at hr;refine rf (fn:=f76) ⟨func76,rfl,by kernel_rfl⟩ rfl (fun _=>rfl) fun g0 hg=>?_
 refine rn tk 20 rfl<|wn tk rfl rfl rfl<|rn tk 1 rfl<|wn tk rfl rfl rfl<|rn tk 3 rfl<|ac 16 hr rfl (fun c1 hr=>?_) (fun c1 hr=>?_)
 .refine rn tk 7 rfl ?_;cases hr;exact kr tk (.inr rfl) rfl rfl
 refine rn tk 12 rfl<|wn tk rfl rfl rfl<|rn tk 4 rfl<|al2 hr (fun s2=>[(3,.l zca.pc a0.Mail.Envelope.To),(4,.bo s2.1),(18,.l zea.pc a0.To),(19,.i ((a0.To.length:Int))),(20,.i s2.2)]) (fun s2=>[]) (.exit 0) (fun b3=>[(4,.bo b3)]) (fun b3=>[]) .ret (fun b4=>[(2,.bo b4)]) (fun b4=>[]) rfl rfl (fun s2 x6 hr=>?_) (fun b3 hr=>?_) (fun b4 hr=>?_)
 .unfold qCa at hr;refine rn tk 6 rfl<|ac 21 hr rfl (fun c7 hr=>?_) (fun c7 hr=>?_)
  .refine rn tk 2 rfl<|jk (fun j8=>[(3,.l zca.pc a0.Mail.Envelope.To),(4,.bo j8),(18,.l zea.pc a0.To),(19,.i ((a0.To.length:Int))),(20,.i s2.2)]) (fun j8=>[]) (fun j8=>vCa s2 j8=some x6) ?_ ?_
   .refine rn tk 4 rfl ?_;obtain ⟨v9,h10,hr⟩:=zaa hr;refine wi tk h10 rfl rfl rfl rfl rfl<|rn tk 7 rfl<|jb hr (fun j11=>[(3,.l zca.pc a0.Mail.Envelope.To),(4,.bo s2.1),(6,.ptr 6 0),(18,.l zea.pc a0.To),(19,.i ((a0.To.length:Int))),(20,.i s2.2),(55,.bo j11)]) (fun j11=>[(6,.cells (zN5 v9))]) (fun j11 hr=>?_) (fun j11 hr=>?_)
    .obtain ⟨v12,h13,hr⟩:=zaa hr;refine dr 6 [(30,.agg [.s v12.Address,.i v12.Notify]),(29,.ep [pS v12.Address,pI v12.Notify]),(28,.i s2.2),(27,.l zca.pc a0.Mail.Envelope.To),(26,.agg [.s v9.Recipient.Address,.i v9.Recipient.Notify]),(25,.ptr 6 0)] mixed (by kernel_rfl) rfl rfl (pq tk rfl (.plain rfl) (pq tk rfl (.plain rfl) (pq tk rfl (.plain rfl) (pq tk rfl (.plain rfl) (.run (.plain rfl) (zua (qya (f:=zca.pc) rfl rfl zYa zNa rfl h13)) (pq tk rfl (.plain rfl) .nil)))))) rfl<|wq (jra rfl rfl zNa wja (.str rfl (by decide) kaa (.int rfl (by decide) zVa .nil))) rfl rfl rfl<|rn tk 1 rfl<|bs 32 hr rfl (fun c14 hr=>?_) (fun c14 hr=>?_)
     .refine rn tk 24 rfl ?_;cases hr;exact jn _ rfl rfl rfl
     refine rn tk 4 rfl<|bs 36 hr rfl (fun c15 hr=>?_) (fun c15 hr=>?_)
     .refine rn tk 5 rfl<|bs 41 hr rfl (fun c16 hr=>?_) (fun c16 hr=>?_)
      .refine rn tk 6 rfl<|bs 47 hr rfl (fun c17 hr=>?_) (fun c17 hr=>?_)
       .refine rn tk 9 rfl ?_;cases hr;exact jn _ rfl rfl rfl
       refine rn tk 3 rfl<|bs 50 hr rfl (fun c18 hr=>?_) (fun c18 hr=>?_)
       .refine rn tk 6 rfl ?_;cases hr;exact jn _ rfl rfl rfl
       refine rn tk 6 rfl ?_;cases hr;exact jn _ rfl rfl rfl
      refine rn tk 9 rfl<|bs 50 hr rfl (fun c19 hr=>?_) (fun c19 hr=>?_)
      .refine rn tk 6 rfl ?_;cases hr;exact jn _ rfl rfl rfl
      refine rn tk 6 rfl ?_;cases hr;exact jn _ rfl rfl rfl
     refine rn tk 14 rfl<|bs 50 hr rfl (fun c20 hr=>?_) (fun c20 hr=>?_)
     .refine rn tk 6 rfl ?_;cases hr;exact jn _ rfl rfl rfl
     refine rn tk 6 rfl ?_;cases hr;exact jn _ rfl rfl rfl
    refine ac 55 hr rfl (fun c21 hr=>?_) (fun c21 hr=>?_)
    .refine rn tk 9 rfl ?_;cases hr;exact ato rfl rfl rfl rfl
    refine rn tk 5 rfl<|bs 57 hr rfl (fun c22 hr=>?_) (fun c22 hr=>?_)
    .refine rn tk 7 rfl<|jn true hr rfl rfl
    refine rn tk 7 rfl<|jn ((v9.Result==0)) hr rfl rfl
   intro j8 hr;unfold vCa at hr;refine rn tk 4 rfl ?_;cases hr;exact atc rfl rfl
  refine rn tk 2 rfl ?_;cases hr;exact ato rfl rfl rfl rfl
 .refine rn tk 9 rfl ?_;cases hr;exact kr tk (.inr rfl) rfl rfl
 refine rn tk 2 rfl ?_;cases hr;exact kr tk (.inr rfl) rfl rfl
theorem j3a(a0:zra)(r:zpa)(hr:vHa a0=some r):Run prog 67 [.agg [.l zba.pc a0.Entries,.i a0.Next]] (.agg [.i r.Code,.i r.Index]):=by
 unfold vHa at hr;refine rf (fn:=f67) ⟨func67,rfl,by kernel_rfl⟩ rfl (fun _=>rfl) fun g0 hg=>?_
 refine rn tk 11 rfl<|wn tk rfl rfl rfl<|rn tk 3 rfl<|ac 10 hr rfl (fun c1 hr=>?_) (fun c1 hr=>?_)
 .refine rn tk 2 rfl ?_;obtain ⟨v2,h3,hr⟩:=zaa hr;refine cl (zka _ _ _ h3) rfl rfl<|rn tk 5 rfl ?_;cases hr;exact kr tk (.inr rfl) rfl rfl
 refine rn tk 3 rfl<|jb hr (fun j4=>[(1,.ptr 1 0),(2,.ptr 2 0),(19,.bo j4)]) (fun j4=>[(2,.cells [.i 0,.i 0]),(1,.cells [.l zba.pc a0.Entries,.i a0.Next])]) (fun j4 hr=>?_) (fun j4 hr=>?_)
 .refine rn tk 5 rfl<|bs 15 hr rfl (fun c5 hr=>?_) (fun c5 hr=>?_)
  .refine rn tk 5 rfl ?_;cases hr;exact jn _ rfl rfl rfl
  refine rn tk 5 rfl ?_;cases hr;exact jn _ rfl rfl rfl
 refine ac 19 hr rfl (fun c6 hr=>?_) (fun c6 hr=>?_)
 .refine rn tk 2 rfl ?_;obtain ⟨v7,h8,hr⟩:=zaa hr;refine cl (zka _ _ _ h8) rfl rfl<|rn tk 5 rfl ?_;cases hr;exact kr tk (.inr rfl) rfl rfl
 refine rn tk 12 rfl<|wn tk rfl rfl rfl<|rn tk 4 rfl<|al2 hr (fun s9=>[(1,.ptr 1 0),(2,.ptr 2 0),(3,.i s9.1),(22,.l zba.pc a0.Entries),(23,.i ((a0.Entries.length:Int))),(24,.i s9.2)]) (fun s9=>[(2,.cells [.i 0,.i 0]),(1,.cells [.l zba.pc a0.Entries,.i a0.Next])]) (.exit 0) (fun b10=>[(2,.ptr 2 0)]) (fun b10=>[(2,.cells [.i 0,.i 0])]) .ret (fun b11=>[(2,.ptr 2 0)]) (fun b11=>[(2,.cells [.i b11.Code,.i b11.Index])]) rfl rfl (fun s9 x13 hr=>?_) (fun b10 hr=>?_) (fun b11 hr=>?_)
 .unfold qqa at hr;refine rn tk 6 rfl<|ac 25 hr rfl (fun c14 hr=>?_) (fun c14 hr=>?_)
  .refine rn tk 7 rfl ?_;obtain ⟨v15,h16,hr⟩:=zaa hr;refine wi tk h16 rfl rfl rfl rfl rfl<|rn tk 10 rfl ?_;obtain ⟨v17,h18,hr⟩:=zaa hr;refine cl (yha _ _ h18) rfl rfl<|rn tk 9 rfl ?_;obtain ⟨v19,h20,hr⟩:=zaa hr;refine cl (zTa _ _ h20) rfl rfl<|rn tk 3 rfl<|ac 32 hr rfl (fun c21 hr=>?_) (fun c21 hr=>?_)
   .refine rn tk 5 rfl ?_;obtain ⟨v22,h23,hr⟩:=zaa hr;refine cl (zka _ _ _ h23) rfl rfl<|rn tk 8 rfl ?_;cases hr;exact ato rfl rfl rfl rfl
   refine jb hr (fun j24=>[(1,.ptr 1 0),(2,.ptr 2 0),(4,.i s9.2),(5,.ptr 5 0),(22,.l zba.pc a0.Entries),(23,.i ((a0.Entries.length:Int))),(24,.i s9.2),(39,.bo j24)]) (fun j24=>[(5,.cells (zN3 v15)),(2,.cells [.i 0,.i 0]),(1,.cells [.l zba.pc a0.Entries,.i a0.Next])]) (fun j24 hr=>?_) (fun j24 hr=>?_)
   .refine rn tk 6 rfl<|bs 44 hr rfl (fun c25 hr=>?_) (fun c25 hr=>?_)
    .refine rn tk 8 rfl ?_;cases hr;exact jn _ rfl rfl rfl
    refine rn tk 8 rfl ?_;cases hr;exact jn _ rfl rfl rfl
   refine ac 39 hr rfl (fun c26 hr=>?_) (fun c26 hr=>?_)
   .refine rn tk 3 rfl ?_;obtain ⟨v27,h28,hr⟩:=zaa hr;refine cl (zka _ _ _ h28) rfl rfl<|rn tk 8 rfl ?_;cases hr;exact ato rfl rfl rfl rfl
   refine jb hr (fun j29=>[(1,.ptr 1 0),(2,.ptr 2 0),(4,.i s9.2),(5,.ptr 5 0),(22,.l zba.pc a0.Entries),(23,.i ((a0.Entries.length:Int))),(24,.i s9.2),(53,.bo j29)]) (fun j29=>[(5,.cells (zN3 v15)),(2,.cells [.i 0,.i 0]),(1,.cells [.l zba.pc a0.Entries,.i a0.Next])]) (fun j29 hr=>?_) (fun j29 hr=>?_)
   .refine rn tk 3 rfl ?_;obtain ⟨v30,h31,hr⟩:=zaa hr;refine cl (vMa _ _ h31) rfl rfl<|rn tk 2 rfl<|bs 58 hr rfl (fun c32 hr=>?_) (fun c32 hr=>?_)
    .refine rn tk 17 rfl ?_;cases hr;exact jn _ rfl rfl rfl
    refine rn tk 2 rfl ?_;obtain ⟨v33,h34,hr⟩:=zaa hr;refine ug rfl rfl rfl<|cl (vMa _ _ h34) rfl rfl<|rn tk 3 rfl<|bs 64 hr rfl (fun c35 hr=>?_) (fun c35 hr=>?_)
    .refine rn tk 11 rfl ?_;cases hr;exact jn _ rfl rfl rfl
    refine rn tk 5 rfl<|bs 69 hr rfl (fun c36 hr=>?_) (fun c36 hr=>?_)
    .refine rn tk 6 rfl ?_;cases hr;exact jn _ rfl rfl rfl
    refine rn tk 6 rfl ?_;cases hr;exact jn _ rfl rfl rfl
   refine ac 53 hr rfl (fun c37 hr=>?_) (fun c37 hr=>?_)
   .refine rn tk 3 rfl ?_;obtain ⟨v38,h39,hr⟩:=zaa hr;refine cl (zka _ _ _ h39) rfl rfl<|rn tk 8 rfl ?_;cases hr;exact ato rfl rfl rfl rfl
   refine rn tk 3 rfl ?_;obtain ⟨v40,h41,hr⟩:=zaa hr;refine cl (ZDa _ _ h41) rfl rfl<|rn tk 4 rfl<|ac 76 hr rfl (fun c42 hr=>?_) (fun c42 hr=>?_)
   .refine rn tk 3 rfl ?_;obtain ⟨v43,h44,hr⟩:=zaa hr;refine cl (zka _ _ _ h44) rfl rfl<|rn tk 8 rfl ?_;cases hr;exact ato rfl rfl rfl rfl
   refine rn tk 14 rfl ?_;cases hr;exact atc rfl rfl
  refine rn tk 2 rfl ?_;cases hr;exact ato rfl rfl rfl rfl
 .refine rn tk 4 rfl ?_;obtain ⟨v45,h46,hr⟩:=zaa hr;refine cl (z4a _ h46) rfl rfl<|rn tk 4 rfl ?_;cases hr;exact kr tk (.inr rfl) rfl rfl
 refine rn tk 2 rfl ?_;cases hr;exact kr tk (.inr rfl) rfl rfl
theorem kBa(a0:List zba)(r:List zba)(hr:z3a a0=some r):RunO prog 106 [.l zba.pc a0] 97 10 (List.map zba.pc r):=by
 unfold z3a at hr;refine rfO (fn:=f106) ⟨func106,rfl,by kernel_rfl⟩ rfl fun g0 hg=>?_
 refine rn tk 3 rfl ?_;refine vha 1002 (d:=2) 97 10 rfl rfl rfl (hO ?_);refine rn tk 6 rfl ?_;refine Zia (d:=3) (F:=zba.pc) (l:=a0) rfl rfl rfl zta (fun c1=>hO ?_) (hO ?_)
 .replace hr:=Q6a c1 hr
  refine rn tk 6 rfl ?_;refine vha 2002 (d:=2) 97 10 rfl rfl rfl (hO ?_);refine rn tk 4 rfl ?_;cases hr;exact krO tk (.inr rfl) rfl rfl
 replace hr:=Q7a hr
 refine rn tk 7 rfl<|wo (Kta (k:=5) rfl zta zma) rfl<|rn tk 1 rfl ?_;obtain ⟨v2,h3,hr⟩:=zaa hr;refine wo (yCa (k:=7) (F:=zba.pc) (xs:=a0) (lim:=879609302220) 2002 rfl rfl rfl zta zma rfl rfl (fun _=>rfl) rfl rfl rfl h3) rfl<|rn tk 4 rfl ?_;cases hr;exact krO tk (.inr rfl) rfl rfl
theorem kqa(a0:List zea)(r:List zea)(hr:zPa a0=some r):RunO prog 107 [.l zea.pc a0] 100 4 (List.map zea.pc r):=by
 unfold zPa at hr;refine rfO (fn:=f107) ⟨func107,rfl,by kernel_rfl⟩ rfl fun g0 hg=>?_
 refine rn tk 3 rfl ?_;refine vha 1002 (d:=2) 100 4 rfl rfl rfl (hO ?_);refine rn tk 6 rfl ?_;refine Zia (d:=3) (F:=zea.pc) (l:=a0) rfl rfl rfl zna (fun c1=>hO ?_) (hO ?_)
 .replace hr:=Q6a c1 hr
  refine rn tk 6 rfl ?_;refine vha 2002 (d:=2) 100 4 rfl rfl rfl (hO ?_);refine rn tk 4 rfl ?_;cases hr;exact krO tk (.inr rfl) rfl rfl
 replace hr:=Q7a hr
 refine rn tk 7 rfl<|wo (Kta (k:=5) rfl zna zOa) rfl<|rn tk 1 rfl ?_;obtain ⟨v2,h3,hr⟩:=zaa hr;refine wo (yCa (k:=7) (F:=zea.pc) (xs:=a0) (lim:=3518437208883) 2002 rfl rfl rfl zna zOa rfl rfl (fun _=>rfl) rfl rfl rfl h3) rfl<|rn tk 4 rfl ?_;cases hr;exact krO tk (.inr rfl) rfl rfl
end Go.Proofs.YtdblnmhmmfahkaaGreat
