/- Part 5 of the proof of the law WireCutsDoNotMatter: what it needs. -/
import Derived.Test.YtjjgjalfelnclaaGreatDoorKWireCutsDoNotMatter4
import Derived.Shelf.Strings.Builder1
import Derived.Shelf.Strings.Builder2
import Derived.Shelf.Strings.OnBuilder
import Derived.Shelf.Strings.Trim
import Derived.Shelf.Small.Utf8
import Derived.Shelf.Small.Strs
import Derived.Shelf.Small.Wraps
import Derived.Shelf.Strings.BuilderF
import Derived.Shelf.Strconv.Atoi
import Derived.Shelf.Strconv.Itoa0
import Derived.Shelf.Strconv.Itoa1
import Derived.Shelf.LaysM
import Derived.Shelf.Strconv.Itoa2
import Derived.Shelf.Strconv.Itoa3
import Derived.Shelf.Strconv.AtoiErrFast
import Derived.Shelf.Strconv.ParseIntEmpty
import Derived.Shelf.Strconv.AtoiFail
import Derived.Shelf.Strconv.Clone
import Derived.Shelf.Strconv.SyntaxError
import Derived.Shelf.LaysC
import Derived.Shelf.Strconv.ToError
import Derived.Shelf.Strconv.AtoiErr
import Derived.Shelf.Strconv.ErrVar
import Derived.Shelf.Strings.Search1
import Derived.Shelf.Strings.Search2
import Derived.Shelf.Strings.Search3
import Derived.Shelf.Strings.Cut
import Derived.Shelf.Strings.Count
import Derived.Shelf.Strings.Shaped
import Derived.Shelf.Strings.Prefix
import Derived.Shelf.Strings.Split
import Derived.Shelf.Strings.Runes
import Derived.Shelf.Strings.IndexAny
import Derived.Shelf.Strings.AsciiSet
import Derived.Shelf.Strings.IndexAnyAll
import Derived.Shelf.Unicode.DecodeSlow
import Derived.Shelf.Strings.FieldsFuncAny
import Derived.Ground.Names2Prog
import Derived.Shelf.Slices.Clone
import Derived.Shelf.Bytes.SlIndexSmall
import Derived.Shelf.Bytes.SlIndexAt
import Derived.Shelf.Bytes.SlSearch0
import Derived.Shelf.Bytes.SlSearch1
import Derived.Shelf.Bytes.SlSearch2
import Derived.Shelf.Bytes.SlIndexWhole
import Derived.Shelf.Bytes.SlSmallAll
import Derived.Shelf.Bytes.SlEqualAll
import Derived.Shelf.Bytes.Small
import Derived.Shelf.Bytes.IndexByte
import Derived.Test.YtjjgjalfelnclaaGreatDoorProg
set_option linter.unusedVariables false
set_option linter.unusedSimpArgs false
set_option maxRecDepth 100000
set_option maxHeartbeats 40000000
namespace Go.Proofs.YtjjgjalfelnclaaGreatDoor
open Go.RowKit Go.Proofs.Tryz
def idN(nm:Str)(k:Nat):Str:=nm++ [45]++Lib.decDigits k
theorem idN_inj{nm:Str}{j k:Nat}(h:idN nm j=idN nm k):j=k:=by
 have h:=List.append_cancel_left h;have:=Qta j;rw[h,Qta k]at this;exact (Option.some.inj this).symm
theorem idN_ok(nm:Str)(k:Nat): [idN nm k]≠ [okW]:=by
 intro h;have h:idN nm k=okW:=List.head_eq_of_cons_eq h;have h45:(45:UInt8)∈idN nm k:=by simp[idN]
 rw[h]at h45;simp[okW]at h45
theorem idN_name{nm:Str}{k:Nat}(h:v3a nm=true)(hl:nm.length<=40)(hk:k<=1000001):v3a (idN nm k)=true:=by
 have h7:=QCa hk;have hp:=y0b k;unfold v3a at h ⊢;simp only[jAh,decide_eq_true_eq,jAw]at h ⊢;refine ⟨⟨by simp[idN];omega,by simp[idN];omega⟩,fun c hc=>?_⟩;unfold idN at hc;rcases jCc.1 hc with hc | hc
 .rcases jCc.1 hc with hc | hc
  .exact h.2 c hc
  rw[jBi.1 hc];rfl
 obtain ⟨h1,h2⟩:=jGa k c hc;have e:c=UInt8.ofNat c.toNat:=(UInt8.ofNat_toNat).symm;rw[e];have:c.toNat=48∨c.toNat=49∨c.toNat=50∨c.toNat=51∨c.toNat=52∨c.toNat=53∨c.toNat=54∨c.toNat=55∨c.toNat=56∨c.toNat=57:=by omega
 rcases this with h | h | h | h | h | h | h | h | h | h <;> rw[h] <;> rfl
def sdP(nm:Str)(k:Nat)(r:zra):Bool:=r.Code==250 && r.Lines==[idN nm k]
def ZPb(nm:Str)(R:List zra)(k:Nat):Nat:=R.countP (sdP nm k)
def okM(nm:Str)(many:Int)(k:Nat)(m:zua):Prop:=m.Envelope.Id=idN nm k/\QMa m=⟨0,0⟩/\(m.Envelope.To.length:Int)<=many/\jFa m.Envelope/\ypa m.Message
structure MI (nm:Str) (mx:Int) (c0:Nat) (x:Ses):Prop where
 name:x.Server.Name=nm
 many:x.Server.Many=mx
 count:x.Server.Count=((c0+x.mails.length:Nat):Int)
 ok:∀i m,x.mails[i]? =some m->okM nm mx (c0+1+i) m
 said:∀i,ZPb nm x.replies (c0+1+i)=if i < x.mails.length then 1 else 0
theorem MI.of{nm:Str}{many:Int}{c0:Nat}{x:Ses}(h:MI nm many c0 x){s:zsa}(h1:s.Name=x.Server.Name)(h2:s.Many=x.Server.Many)(h3:s.Count=x.Server.Count):MI nm many c0 ⟨s,x.replies,x.mails⟩:=
 ⟨h1.trans h.name,h2.trans h.many,h3.trans h.count,h.ok,h.said⟩
theorem MI.say{nm:Str}{many:Int}{c0:Nat}{x:Ses}(h:MI nm many c0 x){code:Int}{l:List Str}(hl:code≠250∨l.length≠1∨l=[okW]):MI nm many c0 (sayS x code l):=by
 refine ⟨h.name,h.many,h.count,h.ok,fun i=>?_⟩;have e:sdP nm (c0+1+i) ⟨code,l⟩=false:=by
  unfold sdP;rcases hl with hl | hl | hl
  .simp[hl]
  .have:l≠ [idN nm (c0+1+i)]:=fun e=>hl (by rw[e];rfl)
   simp[this]
  subst hl;have:=(idN_ok nm (c0+1+i)).symm;simp only[beq_eq_false_iff_ne.2 this,Bool.and_false]
 rw[show (sayS x code l).mails=x.mails from rfl,<-h.said i];unfold ZPb sayS;simp[e]
theorem smail_ok{m:zua}(h1:m.Envelope.From=[]∨qja m.Envelope.From=true)(h2:m.Envelope.To≠ [])(h3:m.Envelope.To.length<=60)(h4:v3a m.Envelope.Id=true)(h5:(recF m.Envelope.To).Code=0)(h6:(msgF m.Message).Code=0):QMa m=⟨0,0⟩:=by
 have hl:1<=m.Envelope.To.length:=by cases he:m.Envelope.To with
  | nil=>exact absurd he h2
  | cons=>simp
 have he:envF m.Envelope=recF m.Envelope.To:=by
  unfold envF;have e1:K6b m.Envelope.From=false:=by unfold K6b;rcases h1 with e | e <;> simp[e]
  have e2:(decide (m.Envelope.To.length < 1) || decide (60 < m.Envelope.To.length))=false:=by rw[decide_eq_false (by omega),decide_eq_false (by omega)];rfl
  rw[e1,e2,h4,if_neg (by decide),if_neg (by decide),if_neg (by simp)]
 unfold QMa;rw[he,h5,h6];rfl
structure DN (x:Ses):Prop where
 frm:x.Server.From=[]∨qja x.Server.From=true
 ne:x.Server.To≠ []
 len:(x.Server.To.length:Int)<=x.Server.Many
 l60:x.Server.To.length<=60
 tos:(recF x.Server.To).Code=0
 data:x.Server.Data.length<=12000
 cnt:x.Server.Count<=1000000
 nm:v3a x.Server.Name=true/\x.Server.Name.length<=40
theorem ZQb{l:List zba}(h:(recF l).Code=0)(hl:l.length<=60):zGb l:=⟨by omega,fun a ha=>by
 have:=Z8a ((YGa h).1 a ha).1;omega⟩
theorem ZRb{b:List UInt8}(h:(jPa b).2=true):(jPa b).1=rawM b/\(msgF (rawM b)).Code=0:=by
 unfold jPa at h ⊢;by_cases h6:60 < (j0a b).2.length
 .rw[if_pos h6]at h;cases h
 rw[if_neg h6]at h ⊢;by_cases hz:(msgF (rawM b)).Code=0
 .rw[if_pos hz];exact ⟨rfl,hz⟩
 rw[if_neg hz]at h;cases h
theorem Vnb(nm:Str)(R:List zra)(r:zra)(k:Nat):ZPb nm (R++ [r]) k=ZPb nm R k+if sdP nm k r then 1 else 0:=by
 unfold ZPb;rw[List.countP_append,List.countP_singleton]
theorem MI.done{nm:Str}{many:Int}{c0:Nat}{x:Ses}(h:MI nm many c0 x)(d:DN x):MI nm many c0 (Kva x):=by
 unfold Kva;have ab:∀{y:Ses},MI nm many c0 y->MI nm many c0 (abS y):=fun hy=>hy.of rfl rfl rfl
 refine ab ?_;split
 .exact h.say (.inl (by decide))
 split
 .exact h.say (.inl (by decide))
 rename_i hn;have hr:(jPa x.Server.Data).2=true:=by
  cases e:(jPa x.Server.Data).2 with
  | true=>rfl
  | false=>exact absurd (.inl e) hn
 have hnc:x.Server.Count≠1000000:=fun e=>hn (.inr e)
 have hc:=h.count;have hid:idS x.Server=idN nm (c0+1+x.mails.length):=by
  unfold idS idN;rw[h.name,show (x.Server.Count+1).toNat=c0+1+x.mails.length by omega]
 have hk:∀i,sdP nm (c0+1+i) ⟨250,[idS x.Server]⟩=decide (i=x.mails.length):=fun i=>by
  unfold sdP;rw[hid];by_cases e:i=x.mails.length
  .subst e;simp
  have:idN nm (c0+1+x.mails.length)≠idN nm (c0+1+i):=fun q=>e (by have:=idN_inj q;omega)
  have:([idN nm (c0+1+x.mails.length)]==[idN nm (c0+1+i)])=false:=beq_eq_false_iff_ne.2 fun q=>this (List.head_eq_of_cons_eq q)
  rw[decide_eq_false e];simp only[this,Bool.and_false]
 obtain ⟨q1,q2⟩:=ZRb hr;have hm:okM nm many (c0+1+x.mails.length) ⟨⟨x.Server.From,x.Server.To,idS x.Server⟩,(jPa x.Server.Data).1⟩:=by
  obtain ⟨d1,d2,d3,d4,d5,d6,d7,d8,d9⟩:=d;rw[h.name]at d8 d9;rw[h.many]at d3;have hnm:=idN_name d8 d9 (k:=c0+1+x.mails.length) (by omega);have h60:=KQa hnm;rw[q1,hid];exact ⟨rfl,smail_ok d1 d2 d4 hnm d5 q2,d3,⟨by
   rcases d1 with e | e
   .show x.Server.From.length<=_;rw[e];simp
   have:=Z8a e;show x.Server.From.length<=_;omega,by show (idN nm (c0+1+x.mails.length)).length<=_;omega,ZQb d5 d4⟩,zWb _ d6⟩
 refine ⟨h.name,h.many,?_,fun i m hi=>?_,fun i=>?_⟩
 .show x.Server.Count+1=((c0+(x.mails++ [_]).length:Nat):Int);rw[jAl];simp only[jAu,jBw];omega
 .have hi:(x.mails++ [(⟨⟨x.Server.From,x.Server.To,idS x.Server⟩,(jPa x.Server.Data).1⟩:zua)])[i]? =some m:=hi;by_cases hl:i < x.mails.length
  .rw[jAs hl]at hi;exact h.ok i m hi
  rw[jAq (by omega)]at hi;have hz:i - x.mails.length=0:=by
   by_cases e:i - x.mails.length=0
   .exact e
   rw[jBr (by simp;omega)]at hi;cases hi
  rw[hz]at hi;have hi:=Option.some.inj hi;rw[<-hi,show i=x.mails.length by omega];exact hm
 show ZPb nm (x.replies++ [⟨250,[idS x.Server]⟩]) (c0+1+i)=if i < (x.mails++ [_]).length then 1 else 0;rw[Vnb,h.said i,hk i,jAl];simp only[jAu,jBw,decide_eq_true_eq];by_cases h1:i < x.mails.length
 .rw[if_pos h1,if_neg (by omega),if_pos (by omega)]
 by_cases h2:i=x.mails.length
 .rw[if_neg h1,if_pos h2,if_pos (by omega)]
 rw[if_neg h1,if_neg h2,if_neg (by omega)]
theorem MI.chunk{nm:Str}{many:Int}{c0:Nat}{x:Ses}(h:MI nm many c0 x)(d:x.Server.Ignore=false->DN x):MI nm many c0 (yga x):=by
 unfold yga;have h0:MI nm many c0 ⟨{x.Server with Phase:=0,Last:=false,Ignore:=false},x.replies,x.mails⟩:=h.of rfl rfl rfl;cases hi:x.Server.Ignore with
 | true=>exact h0.say (.inl (by decide))
 | false=>
  obtain ⟨d1,d2,d3,d4,d5,d6,d7,d8⟩:=d hi;cases x.Server.Last with
  | true=>exact h0.done ⟨d1,d2,d3,d4,d5,d6,d7,d8⟩
  | false=>exact h0.say (.inr (.inr rfl))
theorem MI.exec{nm:Str}{many:Int}{c0:Nat}{x:Ses}(h:MI nm many c0 x)(d:x.Server.To≠ []->DN x)(c:zfa):MI nm many c0 (yma x c):=by
 unfold yma;split
 .exact MI.say (x:=⟨{(abS x).Server with Greeted:=true},x.replies,x.mails⟩) (h.of rfl rfl rfl) (.inr (.inl (by simp)))
 split
 .cases !x.Server.Greeted || x.Server.Mailing with
  | true=>exact h.say (.inl (by decide))
  | false=>
   simp only[cond_false];split
   .exact h.say (.inl (by decide))
   exact MI.say (x:=⟨{x.Server with Mailing:=true,From:=c.Address},x.replies,x.mails⟩) (h.of rfl rfl rfl) (.inr (.inr rfl))
 split
 .unfold WMa;cases !x.Server.Mailing || x.Server.Chunked with
  | true=>exact h.say (.inl (by decide))
  | false=>
   simp only[cond_false];split
   .exact h.say (.inl (by decide))
   exact MI.say (x:=⟨{x.Server with To:=addR x c},x.replies,x.mails⟩) (h.of rfl rfl rfl) (.inr (.inr rfl))
 split
 .cases x.Server.To.isEmpty || x.Server.Chunked with
  | true=>exact h.say (.inl (by decide))
  | false=>exact MI.say (x:=⟨{x.Server with Phase:=1},x.replies,x.mails⟩) (h.of rfl rfl rfl) (.inl (by decide))
 split
 .split
  .refine MI.chunk (x:=⟨{x.Server with Phase:=2,Left:=c.Size,Last:=c.Last,Ignore:=x.Server.To.isEmpty,Chunked:= !x.Server.To.isEmpty},x.replies,x.mails⟩) (h.of rfl rfl rfl) fun hi=>?_
   have hi:x.Server.To.isEmpty=false:=hi;obtain ⟨d1,d2,d3,d4,d5,d6,d7,d8⟩:=d fun e=>by rw[e]at hi;cases hi
   exact ⟨d1,d2,d3,d4,d5,d6,d7,d8⟩
  exact h.of rfl rfl rfl
 split
 .exact MI.say (x:=abS x) (h.of rfl rfl rfl) (.inr (.inr rfl))
 split
 .exact MI.say (x:=⟨{(abS x).Server with Phase:=3,Buffer:=[]},x.replies,x.mails⟩) (h.of rfl rfl rfl) (.inl (by decide))
 exact h.say (.inr (.inr rfl))
theorem MI.keep{nm:Str}{many:Int}{c0:Nat}{x:Ses}(h:MI nm many c0 x)(c:UInt8):MI nm many c0 (z2a x c):=by
 unfold z2a;split <;> exact h.of rfl rfl rfl
theorem yrb:∀(k:Nat) (l:List UInt8) (c n:Nat),l.length<=k->Vla c l=none->l.length<=n->Zra n l=l
 | _,[],c,n,_,_,_=>by cases n <;> rfl
 | k,[x],c,n,_,h,hn=>by
  unfold Vla at h;have hx:(x==13 || x==10)=false:=by
   cases hq:x==13 || x==10 with
   | false=>rfl
   | true=>rw[if_pos hq]at h;cases h
  simp only[jCe,beq_eq_false_iff_ne]at hx;cases n with
  | zero=>simp at hn
  | succ n=>
   unfold Zra;rw[if_neg hx.1,if_neg hx.2];cases n <;> rfl
 | 0,x::y::r,c,n,hk,_,_=>by simp at hk
 | k+1,x::y::r,c,n,hk,h,hn=>by
  unfold Vla at h;cases n with
  | zero=>simp at hn
  | succ n=>
   simp only[jAu]at hk hn;by_cases h1:(x==13 && y==10)=true
   .rw[if_pos h1]at h;simp only[jAh,beq_iff_eq]at h1;obtain ⟨rfl,rfl⟩:=h1;unfold Zra;rw[if_pos rfl,if_pos (by rfl),show (10::r:List UInt8).drop 1=r from rfl,yrb k r 0 n (by omega) h (by omega)]
   rw[if_neg h1]at h;have hx:(x==13 || x==10)=false:=by
    cases hq:x==13 || x==10 with
    | false=>rfl
    | true=>rw[if_pos hq]at h;cases h
   rw[hx]at h;simp only[jCe,beq_eq_false_iff_ne]at hx;have h9:Vla (c+1) (y::r)=none:=by
    by_cases h9:998 < c+1
    .rw[if_pos h9]at h;simp at h
    rw[if_neg h9]at h;simpa using h
   unfold Zra;rw[if_neg hx.1,if_neg hx.2,yrb k (y::r) (c+1) n (by simp only[jAu];omega) h9 (by simp only[jAu];omega)]
theorem qlb(l r:List UInt8)(h:(10:UInt8) ∉ l):jZa (l++13::10::r)=(l,l.length+2):=by
 have e:eol (l++13::10::r)=l.length+1:=by
  unfold eol;rw[List.findIdx_append];have h1:l.findIdx (· ==10)=l.length:=List.findIdx_eq_length.2 fun x hx=>by
   rw[beq_eq_false_iff_ne];intro e;subst e;exact h hx
  rw[h1,if_neg (by omega)];simp[List.findIdx_cons];omega
 unfold jZa;rw[e,if_pos (by simp)];have e2:(l++13::10::r).take (l.length+1)=l++ [13]:=by
  rw[show l++13::10::r=(l++ [13])++10::r by simp,List.take_left' (by simp)]
 rw[e2];have e3:chop (l++ [13])=l:=by
  unfold chop;rw[if_pos (jBk.2 ⟨l,rfl⟩)];simp
 rw[e3]
theorem jFb{l:Str}(h:∀b,l.getLast? =some b->kpa b=false):Zqa l=l:=by
 rcases List.eq_nil_or_concat l with rfl | ⟨p,x,rfl⟩
 .rfl
 rw[List.concat_eq_append]at h ⊢;rw[ZJb,h x (by simp)];rfl
theorem ltrim_id{l:Str}(h:∀b,l.head? =some b->kpa b=false):QPa l=l:=by
 cases l with
 | nil=>rfl
 | cons x l=>unfold QPa;rw[List.dropWhile_cons,h x rfl];rfl
theorem clean_id{v:Str}(h:∀c∈v,endC c=false):v.map qea=v:=by
 have:v.map qea=v.map id:=jDf fun c hc=>by
  have:=h c hc;unfold endC at this;simp only[jCe,beq_eq_false_iff_ne]at this;unfold qea;rw[if_neg (fun e=>e.elim this.2 this.1.1)];rfl
 rw[this,List.map_id]
theorem clean_rt{v:Str}(h:valP v=true):Kna (32::v)=v:=by
 unfold valP at h;simp only[jAh,jCn,jCj,Bool.not_eq_true]at h;obtain ⟨h1,h2⟩:=h;unfold Kna;have e:(32::v:Str).map qea=32::v:=by
  rw[jCh,clean_id h1];rfl
 rw[e];have e2:QPa (32::v)=QPa v:=by unfold QPa;rw[List.dropWhile_cons];rfl
 have hed:∀a b,v.head? =some a->v.getLast? =some b->kpa a=false/\kpa b=false:=fun a b ha hb=>by
  unfold edgeP at h2;rw[ha,hb]at h2;simpa using h2
 have e3:QPa v=v:=ltrim_id fun b hb=>by
  have hne:v≠ []:=fun e=>by rw[e]at hb;cases hb
  exact (hed b _ hb (List.getLast?_eq_some_getLast hne)).1
 have e4:Zqa v=v:=jFb fun b hb=>by
  cases hv:v with
  | nil=>rw[hv]at hb;cases hb
  | cons x t=>exact (hed x b (by rw[hv];rfl) hb).2
 rw[e2,e3,e4]
theorem jGb{t:Str}{f c:Nat}(h:br t f c=true):∃b r,t.drop c=b::r/\kpa b=true:=by
 obtain ⟨h1,h2,h3⟩:=kUb h;rw[br_at h2 h1]at h;simp only[jAh]at h;exact ⟨t[c],t.drop (c+1),jCq h1,h.2.1⟩
theorem cut_br{t:Str}{f:Nat}(h:cutP t f≠0):br t f (cutP t f)=true:=by
 rcases w6b t f with h1 | h1
 .exact absurd h1.1 h
 exact h1.1
theorem JLa:∀(n:Nat) (t:Str) (f:Nat),t.length<=n->(∃b r,t=b::r/\kpa b=true)->∀l∈jHa t f,∃b r,l=b::r/\kpa b=true
 | 0,t,f,hn,⟨b,r,e,_⟩=>by rw[e]at hn;simp at hn
 | n+1,t,f,hn,⟨b,r,e,hb⟩=>fun l hl=>by
  by_cases h78:78 < t.length
  .by_cases hc:cutP t f=0
   .rw[qCa (.inr hc),jBi]at hl;exact ⟨b,r,hl.trans e,hb⟩
   have hp:=Qua hc;rw[Zca h78 hc]at hl;rcases jBh.1 hl with h1 | h1
   .obtain ⟨k,hk⟩:∃k,cutP t f=k+1:=⟨cutP t f - 1,by omega⟩;rw[hk,e]at h1;exact ⟨b,r.take k,by rw[h1];rfl,hb⟩
   exact JLa n (t.drop (cutP t f)) 1 (by simp;omega) (jGb (cut_br hc)) l h1
  rw[qCa (.inl h78),jBi]at hl;exact ⟨b,r,hl.trans e,hb⟩
theorem Vob(n v:Str):∃(v1:Str) (L:List Str),flP n v=(n++58::32::v1)::L/\v1++L.flatten=v/\∀l∈L,∃b r,l=b::r/\kpa b=true:=by
 have ht:txt n v=n++58::32::v:=by unfold txt;simp
 unfold flP;by_cases h78:78 < (txt n v).length
 .by_cases hc:cutP (txt n v) (n.length+2)=0
  .rw[qCa (.inr hc),ht];exact ⟨v,[],rfl,by simp,by simp⟩
  have hb:=cut_br hc;obtain ⟨h1,h2,h3⟩:=kUb hb;have hj:=(KRa _ (txt n v) (n.length+2) (jAn _)).1;rw[Zca h78 hc]at hj ⊢;have e:(txt n v).take (cutP (txt n v) (n.length+2))=n++58::32::v.take (cutP (txt n v) (n.length+2) - (n.length+2)):=by
   rw[show txt n v=(n++ [58,32])++v by rw[ht];simp,List.take_append];rw[jCm (by simp;rw[<-ht];exact h3)];simp
  refine ⟨_,_,by rw[e],?_,JLa _ _ 1 (jAn _) (jGb hb)⟩;rw[List.flatten_cons,e,ht,jAx]at hj;have:=List.append_cancel_left hj;simpa[ht]using this
 rw[qCa (.inl h78),ht];exact ⟨v,[],rfl,by simp,by simp⟩
theorem jHb{n:Str}(h:fnP n=true):n≠ []/\∀c∈n,fnC c=true:=by
 unfold fnP at h;simp only[jAh,bne_iff_ne,ne_eq,jAw]at h;exact ⟨h.1.1,h.2⟩
theorem jIb{c:UInt8}(h:fnC c=true):c≠58/\c≠10/\c≠13/\kpa c=false:=by
 unfold fnC at h;simp only[jAh,decide_eq_true_eq,bne_iff_ne]at h;have h33:(33:UInt8).toNat<=c.toNat:=jDu.1 h.1.1;have k:(33:UInt8).toNat=33:=rfl;refine ⟨h.2,?_,?_,?_⟩
 .rintro rfl;exact absurd h33 (by decide)
 .rintro rfl;exact absurd h33 (by decide)
 unfold kpa;rw[jCe,beq_eq_false_iff_ne,beq_eq_false_iff_ne];constructor
 .rintro rfl;exact absurd h33 (by decide)
 rintro rfl;exact absurd h33 (by decide)
theorem colP_at{n v1:Str}(h:fnP n=true):colP (n++58::32::v1)=(n,32::v1,true):=by
 obtain ⟨h1,h2⟩:=jHb h;have e:colI (n++58::32::v1)=n.length:=by
  unfold colI;rw[List.findIdx_append];have h3:n.findIdx (· ==58)=n.length:=List.findIdx_eq_length.2 fun x hx=>by
   rw[beq_eq_false_iff_ne];exact (jIb (h2 x hx)).1
  rw[h3,if_neg (by omega)];simp[List.findIdx_cons]
 have er:Zqa n=n:=jFb fun b hb=>(jIb (h2 b (List.mem_of_getLast? hb))).2.2.2
 unfold colP;rw[e,if_pos (by simp),List.take_left' rfl,er,h];have:(n++58::32::v1).drop (n.length+1)=32::v1:=by
  rw[show n++58::32::v1=(n++ [58])++32::v1 by simp,List.drop_left' (by simp)]
 rw[this]
def crs(l:Str):List UInt8:=l++ [13,10]
theorem v2b(fs:List zga)(f:zga)(t:Str):K5a (fs++ [f]) t=fs++ [⟨f.Name,f.Value++t⟩]:=by
 unfold K5a;have e:(fs++ [f])[(fs++ [f]).length - 1]? =some f:=by simp
 rw[e];simp
theorem v3b{b:List UInt8}{s s' :Nat × List zga}(d:Nat × List zga)(n:Nat)(h:vla b s=.inl s'):K4a (vla b) d (n+1) s=K4a (vla b) d n s' :=by
 rw[K4a,h]
theorem jJb(b:List UInt8)(d:Nat × List zga)(n:Nat)(fs:List zga):∀(L:List Str) (p r:List UInt8) (f:zga),(∀l∈L,(10:UInt8) ∉ l/\∃c t,l=c::t/\kpa c=true)->b=p++(L.flatMap crs++r)->
 K4a (vla b) d (n+L.length) (p.length,fs++ [f])=K4a (vla b) d n ((p++L.flatMap crs).length,fs++ [⟨f.Name,f.Value++L.flatten⟩])
 | [],p,r,f,_,_=>by simp
 | l::L,p,r,f,hL,hb=>by
  obtain ⟨h10,c,t,e,hc⟩:=hL l (by simp);have hb2:b=(p++crs l)++(L.flatMap crs++r):=by rw[hb];simp
  have hd:b.drop p.length=l++13::10::(L.flatMap crs++r):=by
   rw[hb,List.drop_left' rfl];simp[crs]
  have hs:vla b (p.length,fs++ [f])=.inl ((p++crs l).length,fs++ [⟨f.Name,f.Value++l⟩]):=by
   unfold vla;dsimp only;rw[if_pos (by rw[hb,jDq];simp[crs];omega),hd,qlb _ _ h10];dsimp only;rw[e];dsimp only;rw[if_pos ⟨hc,by simp⟩,<-e,v2b];simp[crs]
  rw[jAu,show n+(L.length+1)=(n+L.length)+1 by omega,v3b d _ hs,jJb b d n fs L (p++crs l) r ⟨f.Name,f.Value++l⟩ (fun x hx=>hL x (by simp[hx])) hb2];simp
theorem field_rt(b:List UInt8)(d:Nat × List zga)(n:Nat)(fs:List zga)(f:zga)(hf:Z7a f=0)(p r:List UInt8)(hb:b=p++((flP f.Name f.Value).flatMap crs++r)):
 K4a (vla b) d (n+(flP f.Name f.Value).length) (p.length,fs)=K4a (vla b) d n ((p++(flP f.Name f.Value).flatMap crs).length,fs++ [⟨f.Name,32::f.Value⟩]):=by
 rw[YEa]at hf;unfold Ztb at hf;have hn:fnP f.Name=true:=by
  cases e:fnP f.Name with
  | true=>rfl
  | false=>rw[e,if_pos (by simp)]at hf;exact absurd hf (by decide)
 rw[hn,if_neg (by simp)]at hf;have hv4:¬4000 < f.Value.length:=fun e=>by rw[if_pos e]at hf;exact absurd hf (by decide)
 rw[if_neg hv4]at hf;have hv:valP f.Value=true:=by
  cases e:valP f.Value with
  | true=>rfl
  | false=>rw[e,if_pos (by simp)]at hf;exact absurd hf (by decide)
 obtain ⟨h1,h2⟩:=jHb hn;have hj:=(KRa _ (txt f.Name f.Value) (f.Name.length+2) (jAn _)).1;have no10:(10:UInt8) ∉ txt f.Name f.Value:=by
  intro h;unfold txt at h;rcases jCc.1 h with h | h
  .rcases jCc.1 h with h | h
   .exact (jIb (h2 _ h)).2.1 rfl
   simp at h
  unfold valP at hv;simp only[jAh,jCn,jCj]at hv;exact hv.1 _ h rfl
 have no10l:∀l∈flP f.Name f.Value,(10:UInt8) ∉ l:=fun l hl h=>no10 (by
  rw[<-hj];exact List.mem_flatten.2 ⟨l,hl,h⟩)
 obtain ⟨v1,L,e1,e2,e3⟩:=Vob f.Name f.Value;rw[e1]at hb no10l ⊢;have hfirst:=no10l _ (jDt ..);have hb2:b=(p++crs (f.Name++58::32::v1))++(L.flatMap crs++r):=by rw[hb];simp
 have hd:b.drop p.length=(f.Name++58::32::v1)++13::10::(L.flatMap crs++r):=by
  rw[hb,List.drop_left' rfl];simp[crs]
 have hs:vla b (p.length,fs)=.inl ((p++crs (f.Name++58::32::v1)).length,fs++ [⟨f.Name,32::v1⟩]):=by
  unfold vla;dsimp only;rw[if_pos (by rw[hb,jDq];simp[crs];omega),hd,qlb _ _ hfirst];dsimp only;obtain ⟨c,t,hct⟩:∃c t,f.Name=c::t:=List.exists_cons_of_ne_nil h1;have hc:kpa c=false:=(jIb (h2 c (by rw[hct];simp))).2.2.2;have e4:f.Name++58::32::v1=c::(t++58::32::v1):=by rw[hct];rfl
  rw[e4];dsimp only;rw[<-e4,if_neg (by rw[hc];simp),colP_at hn,if_pos rfl];simp[crs];omega
 rw[jAu,show n+(L.length+1)=(n+L.length)+1 by omega,v3b d _ hs,jJb b d n fs L _ r ⟨f.Name,32::v1⟩ (fun l hl=>⟨no10l l (by simp[hl]),e3 l hl⟩) hb2];rw[<-e2];simp
def wga(f:zga):List UInt8:=(flP f.Name f.Value).flatMap crs
theorem addF_eq(a:List UInt8)(f:zga):addF a f=a++wga f:=by
 unfold addF wga;have key:∀(L:List Str) (a:List UInt8),L.foldl addL a=a++L.flatMap crs:=by
  intro L;induction L with
  | nil=>intro a;simp
  | cons l L ih=>intro a;rw[jDv,ih];simp[addL,crs]
 exact key _ a
theorem Vpb(L:List zga)(a:List UInt8):L.foldl addF a=a++L.flatMap wga:=by
 induction L generalizing a with
 | nil=>simp
 | cons f L ih=>rw[jDv,ih,addF_eq];simp
theorem v4b(m:zta):zia m=m.Fields.flatMap wga++13::10::m.Body:=by
 unfold zia;rw[Vpb];simp
def ZQa(L:List zga):Nat:=(L.map fun f=>(flP f.Name f.Value).length).sum
theorem v5b(b:List UInt8)(d:Nat × List zga)(n:Nat):∀(L:List zga) (fs:List zga) (p r:List UInt8),(∀f∈L,Z7a f=0)->b=p++(L.flatMap wga++r)->
 K4a (vla b) d (n+ZQa L) (p.length,fs)=K4a (vla b) d n ((p++L.flatMap wga).length,fs++L.map fun f=>⟨f.Name,32::f.Value⟩)
 | [],fs,p,r,_,_=>by simp[ZQa]
 | f::L,fs,p,r,hL,hb=>by
  have hb2:b=(p++wga f)++(L.flatMap wga++r):=by rw[hb];simp
  have e:ZQa (f::L)=ZQa L+(flP f.Name f.Value).length:=by unfold ZQa;simp;omega
  rw[e,show n+(ZQa L+(flP f.Name f.Value).length)=(n+ZQa L)+(flP f.Name f.Value).length by omega];rw[field_rt b d (n+ZQa L) fs f (hL f (by simp)) p (L.flatMap wga++r) (by rw[hb];simp[wga])];have:=v5b b d n L (fs++ [⟨f.Name,32::f.Value⟩]) (p++wga f) r (fun g hg=>hL g (by simp[hg])) hb2;unfold wga at this ⊢;rw[this];simp
theorem crs_len(L:List Str):L.length<=(L.flatMap crs).length:=by
 induction L with
 | nil=>simp
 | cons l L ih=>simp[crs]at ih ⊢;omega
theorem ZSb(L:List zga):ZQa L<=(L.flatMap wga).length:=by
 induction L with
 | nil=>simp[ZQa]
 | cons f L ih=>
  have:=crs_len (flP f.Name f.Value);unfold ZQa at ih ⊢;simp only[jCh,List.sum_cons,jDq,jAl];unfold wga at ih ⊢;omega
theorem Vqb{m:zta}(h:∀f∈m.Fields,Z7a f=0):j0a (zia m)=((m.Fields.flatMap wga).length+2,m.Fields.map fun f=>⟨f.Name,32::f.Value⟩):=by
 unfold j0a;have hb:=v4b m;have hl:=ZSb m.Fields;have hlen:(zia m).length=(m.Fields.flatMap wga).length+2+m.Body.length:=by rw[hb];simp;omega
 rw[show (zia m).length+1=((zia m).length - ZQa m.Fields)+1+ZQa m.Fields by omega];rw[show ((0,[]):Nat × List zga)=(([]:List UInt8).length,[]) from rfl];rw[v5b (zia m) _ _ m.Fields [] [] (13::10::m.Body) h (by rw[hb];rfl)];simp only[jBm];have hs:vla (zia m) ((m.Fields.flatMap wga).length,m.Fields.map fun f=>⟨f.Name,32::f.Value⟩)=.inr ((m.Fields.flatMap wga).length+2,m.Fields.map fun f=>⟨f.Name,32::f.Value⟩):=by
  unfold vla;dsimp only;have hd:(zia m).drop (m.Fields.flatMap wga).length=[]++13::10::m.Body:=by
   rw[hb,List.drop_left' rfl];rfl
  rw[if_pos (by omega),hd,qlb [] _ (by simp)];rfl
 rw[K4a,hs]
theorem v6b{m:zta}(h:(msgF m).Code=0):m.Fields.length<=60/\(∀f∈m.Fields,Z7a f=0)/\(zia m).length<=12000/\Vla 0 m.Body=none:=by
 unfold msgF at h;have hh:(WGa m.Fields).Code=0:=by
  by_cases hz:(WGa m.Fields).Code=0
  .exact hz
  rw[if_pos (by simpa using hz)]at h;exact h
 obtain ⟨q1,q2,q3⟩:=Qva _ hh;rw[hh,if_neg (by decide)]at h;have hl:¬12000 < (zia m).length:=fun e=>by rw[if_pos e]at h;exact absurd h (by decide)
 rw[if_neg hl]at h;refine ⟨by omega,q3,by omega,?_⟩;unfold bodyF at h;cases hb:Vla 0 m.Body with
 | none=>rfl
 | some x=>
  rw[hb]at h;cases x <;> exact absurd h (by decide)
theorem rawM_rt{m:zta}(h:(msgF m).Code=0):rawM (zia m)=m:=by
 obtain ⟨h1,h2,h3,h4⟩:=v6b h;unfold rawM;rw[Vqb h2];dsimp only;have hd:(zia m).drop ((m.Fields.flatMap wga).length+2)=m.Body:=by
  rw[v4b,show m.Fields.flatMap wga++13::10::m.Body=(m.Fields.flatMap wga++ [13,10])++m.Body by simp,List.drop_left' (by simp)]
 rw[hd,yrb _ m.Body 0 _ (jAn _) h4 (jAn _),jEe];have:m.Fields.map (yqa ∘ fun f=>⟨f.Name,32::f.Value⟩)=m.Fields.map id:=jDf fun f hf=>by
  have hc:=h2 f hf;have hv:valP f.Value=true:=by
   rw[YEa]at hc;unfold Ztb at hc;cases e:valP f.Value with
   | true=>rfl
   | false=>
    rw[e]at hc;split at hc
    .exact absurd hc (by decide)
    split at hc
    .exact absurd hc (by decide)
    rw[if_pos (by decide)]at hc;exact absurd hc (by decide)
  show yqa ⟨f.Name,32::f.Value⟩=f;unfold yqa;rw[clean_rt hv]
 rw[this,List.map_id]
theorem readP_rt{m:zta}(h:(msgF m).Code=0):jPa (zia m)=(m,true):=by
 obtain ⟨h1,h2,h3,h4⟩:=v6b h;unfold jPa;rw[rawM_rt h,Vqb h2,if_neg (by simp;omega),if_pos h]
theorem Vrb{s:Str}(h:v3a s=true):(32:UInt8) ∉ s:=by
 intro hm;unfold v3a at h;simp only[jAh,jAw]at h;have:=h.2 _ hm;exact absurd this (by decide)
theorem Vsb{s:Str}(h:qja s=true):(32:UInt8) ∉ s:=by
 unfold qja at h;simp only[jAh,decide_eq_true_eq,jAw]at h;obtain ⟨⟨⟨⟨h1,h2⟩,h3⟩,h4⟩,h5⟩:=h;unfold domP at h5;simp only[jAh,decide_eq_true_eq,jAw]at h5;intro hm;have hs:s=s.take (atP s)++s[atP s]::s.drop (atP s+1):=by
  rw[<-jCq h1,jEk]
 rw[hs]at hm;have hat:s[atP s]=64:=by
  have:=List.findIdx_getElem (xs:=s) (p:=(· ==64)) (w:=h1);exact (by simpa using this:s[List.findIdx (fun x=>x==64) s]=64)
 rcases jCc.1 hm with h6 | h6
 .exact absurd (h4 _ h6) (by decide)
 rcases jBh.1 h6 with h7 | h7
 .rw[hat]at h7;exact absurd h7 (by decide)
 exact absurd (h5.1.2 _ h7) (by decide)
theorem dec_no32(u:Nat):(32:UInt8) ∉ Lib.decDigits u:=by
 intro h;have:=jGa u _ h;have e:(32:UInt8).toNat=32:=rfl;omega
theorem ysb{x:Str}(r:Str)(hx:x≠ [])(h:(32:UInt8) ∉ x):yba (x++32::r)=x::yba r:=by
 unfold yba;rw[Zxb h,vnb];cases x with
 | nil=>exact absurd rfl hx
 | cons b t=>rfl
theorem ZTb{x:Str}(hx:x≠ [])(h:(32:UInt8) ∉ x):yba x=[x]:=by
 have e:=KTa (c:=32) (k:=x) (r:=[]) (x:=[]) (l:=[]) h rfl;rw[jBj]at e;unfold yba;rw[e];cases x with
 | nil=>exact absurd rfl hx
 | cons b t=>rfl
theorem ZUb(x y:Str)(l:List Str):ZJa x (y::l)=x++32::ZJa y l:=by unfold ZJa;simp
theorem z4b:∀(l:List Str) (x:Str),(∀z∈x::l,z≠ []/\(32:UInt8) ∉ z)->yba (ZJa x l)=x::l
 | [],x,h=>by
  have:=h x (by simp);rw[show ZJa x []=x by unfold ZJa;simp];exact ZTb this.1 this.2
 | y::l,x,h=>by
  have:=h x (by simp);rw[ZUb,ysb _ this.1 this.2,z4b l y (fun z hz=>h z (by simp at hz ⊢;exact .inr hz))]
theorem qmb(a:Str):angP ([60]++a++ [62])=some a:=by
 unfold angP;simp
theorem Vtb:∀{s:Str},(∀c∈s,¬(65<=c.toNat/\c.toNat<=90))->lowP s=s
 | [],_=>rfl
 | b::s,h=>by
  have hb:=h b (by simp);have ih:=Vtb (s:=s) fun c hc=>h c (by simp[hc])
  unfold lowP at ih ⊢;rw[jCh,ih];have:lowC b=b:=by
   unfold lowC;have e:(decide ((65:UInt8)<=b) && decide (b<=90))=false:=by
    cases hq:decide ((65:UInt8)<=b) && decide (b<=90) with
    | false=>rfl
    | true=>
     simp only[jAh,decide_eq_true_eq,jDu]at hq;exact absurd hq hb
   rw[e];rfl
  rw[this]
theorem Vub(n t:Str)(hn:∀c∈n,¬(65<=c.toNat/\c.toNat<=90))(ht:∀c∈t,¬(65<=c.toNat/\c.toNat<=90)):optP (n++ [61]++t) n=some t:=by
 have hl:lowP (n++ [61]++t)=n++ [61]++t:=Vtb fun c hc=>by
  simp only[jCc,jBi]at hc;rcases hc with (hc | rfl) | hc
  .exact hn c hc
  .decide
  exact ht c hc
 unfold optP;rw[hl];have:(n++ [61]).isPrefixOf (n++ [61]++t)=true:=by rw[List.isPrefixOf_iff_prefix];exact jCt _ _
 rw[if_pos this]
 congr 1
 rw[List.drop_append_of_le_length (by simp)];simp
theorem Vvb:∀k:Fin 8,vUb (Jca.getD k.val [])=some (k.val:Int)/\(∀c∈Jca.getD k.val [],¬(65<=c.toNat/\c.toNat<=90))/\(32:UInt8) ∉ Jca.getD k.val []:=by decide
theorem z5b{n:Int}(h:0<=n/\n<=7):vUb (KUa n)=some n/\(∀c∈KUa n,¬(65<=c.toNat/\c.toNat<=90))/\(32:UInt8) ∉ KUa n:=by
 have:=Vvb ⟨n.toNat,by omega⟩;dsimp only at this;rw[show ((n.toNat:Nat):Int)=n by omega]at this;exact this
theorem argsP_T{c:zfa}(ok:wTa c):y2a c.Verb (argT c)=some c:=by
 have hu:=ok.used;have hs:=ok.size;have hno:=ok.note;have hadr:=ok.addr;obtain ⟨v,n,a,s,o,l⟩:=c;unfold VXa at hu;dsimp only at hu hs hno hadr ⊢;simp only[jAh,jBs,beq_iff_eq]at hu;obtain ⟨⟨⟨⟨u1,u2⟩,u3⟩,u4⟩,u5⟩:=hu;have hdd:∀c∈Lib.decDigits s.toNat,¬(65<=c.toNat/\c.toNat<=90):=fun c hc=>by have:=jGa _ c hc;omega
 unfold argT;dsimp only;rcases five v with rfl | rfl | rfl | rfl | ⟨h1,h2,h3,h5⟩
 .rw[if_pos rfl];have e2:a=[]:=by rcases u2 with (h | h) | h <;> first | omega | exact h
  have e3:s=0:=by rcases u3 with (h | h) | h <;> first | omega | exact h
  have e4:o=0:=by rcases u4 with h | h <;> first | omega | exact h
  have e5:l=false:=by rcases u5 with h | h <;> first | omega | exact h
  subst e2 e3 e4 e5;rfl
 .rw[if_neg (by omega),if_pos rfl];have e1:n=[]:=by rcases u1 with h | h <;> first | omega | exact h
  have e4:o=0:=by rcases u4 with h | h <;> first | omega | exact h
  have e5:l=false:=by rcases u5 with h | h <;> first | omega | exact h
  subst e1 e4 e5;by_cases hz:s=0
  .subst hz;rw[if_pos rfl,ap2,qmb];rfl
  rw[if_neg hz,ap22,qmb];have e:optP ([115,105,122,101,61]++Lib.decDigits s.toNat) zib=some (Lib.decDigits s.toNat):=Vub zib _ (by decide) hdd;simp only[jAc];rw[e];simp only[jAc];rw[kPb (by omega)];simp only[jCp];rw[show ((s.toNat:Nat):Int)=s by omega]
 .rw[if_neg (by omega),if_neg (by omega),if_pos rfl];have e1:n=[]:=by rcases u1 with h | h <;> first | omega | exact h
  have e3:s=0:=by rcases u3 with (h | h) | h <;> first | omega | exact h
  have e5:l=false:=by rcases u5 with h | h <;> first | omega | exact h
  subst e1 e3 e5;by_cases hz:o=1
  .subst hz;rw[if_pos rfl,ap3,qmb];rfl
  obtain ⟨t1,t2,t3⟩:=z5b hno;rw[if_neg hz,ap33,qmb];have e:optP ([110,111,116,105,102,121,61]++KUa o) notW=some (KUa o):=Vub notW _ (by decide) t2;simp only[jAc];rw[e];simp only[jAc];rw[t1];rfl
 .rw[if_neg (by omega),if_neg (by omega),if_neg (by omega),if_pos rfl];have e1:n=[]:=by rcases u1 with h | h <;> first | omega | exact h
  have e2:a=[]:=by rcases u2 with (h | h) | h <;> first | omega | exact h
  have e4:o=0:=by rcases u4 with h | h <;> first | omega | exact h
  subst e1 e2 e4;have hm:=kPb (m:=s.toNat) (by omega);cases l with
  | false=>
   simp only[jAr,if_false];rw[ap5,hm];simp only[jCp];rw[show ((s.toNat:Nat):Int)=s by omega]
  | true=>
   simp only[if_true];rw[ap55,hm];simp only[jAc];rw[if_pos (by decide),show ((s.toNat:Nat):Int)=s by omega]
 have n1:v≠1:=by simpa using h1
 have n2:v≠2:=by simpa using h2
 have n3:v≠3:=by simpa using h3
 have n5:v≠5:=by simpa using h5
 rw[if_neg n1,if_neg n2,if_neg n3,if_neg n5];have e1:n=[]:=by rcases u1 with h | h <;> first | exact absurd h n1 | exact h
 have e2:a=[]:=by rcases u2 with (h | h) | h <;> first | exact absurd h n2 | exact absurd h n3 | exact h
 have e3:s=0:=by rcases u3 with (h | h) | h <;> first | exact absurd h n2 | exact absurd h n5 | exact h
 have e4:o=0:=by rcases u4 with h | h <;> first | exact absurd h n3 | exact h
 have e5:l=false:=by rcases u5 with h | h <;> first | exact absurd h n5 | exact h
 subst e1 e2 e3 e4 e5;unfold y2a;rw[if_neg n1,if_neg n2,if_neg n3,if_neg n5]
theorem ZVb{c:zfa}(ok:wTa c):∀z∈argT c,z≠ []/\(32:UInt8) ∉ z/\z.length<=200:=by
 have hs:=ok.size;have hal:=VZa ok;have hdl:=yGa 6 c.Size.toNat (by omega);have ha32:(32:UInt8) ∉ c.Address:=by
  by_cases h:c.Address=[]
  .rw[h];simp
  refine Vsb (ok.addr ?_);have hu:=ok.used;unfold VXa at hu;simp only[jAh,jBs,beq_iff_eq]at hu;rcases hu.1.1.1.2 with (h2 | h2) | h2
  .exact .inr ⟨h2,h⟩
  .exact .inl h2
  exact absurd h2 h
 have hd32:=dec_no32 c.Size.toNat;obtain ⟨_,_,hc32⟩:=z5b ok.note;have hcl:=VYa ok.note;have hbr:([60]++c.Address++ [62])≠ []/\(32:UInt8) ∉ ([60]++c.Address++ [62])/\([60]++c.Address++ [62]).length<=200:=⟨by simp,by simp[ha32],by simp;omega⟩;have hsz:([115,105,122,101,61]++Lib.decDigits c.Size.toNat)≠ []/\(32:UInt8) ∉ ([115,105,122,101,61]++Lib.decDigits c.Size.toNat)/\([115,105,122,101,61]++Lib.decDigits c.Size.toNat).length<=200:=⟨by simp,by simp[hd32],by simp;omega⟩;have hnt:([110,111,116,105,102,121,61]++KUa c.Notify)≠ []/\(32:UInt8) ∉ ([110,111,116,105,102,121,61]++KUa c.Notify)/\([110,111,116,105,102,121,61]++KUa c.Notify).length<=200:=⟨by simp,by simp[hc32],by simp;omega⟩;intro z hz;unfold argT at hz;split at hz
 .rename_i h1;have hn:=ok.name h1;have:=KQa hn;obtain rfl:=jBi.1 hz;exact ⟨by intro e;rw[e]at this;simp at this,Vrb hn,by omega⟩
 split at hz
 .rcases jBh.1 hz with rfl | hz
  .exact hbr
  split at hz
  .cases hz
  obtain rfl:=jBi.1 hz;exact hsz
 split at hz
 .rcases jBh.1 hz with rfl | hz
  .exact hbr
  split at hz
  .cases hz
  obtain rfl:=jBi.1 hz;exact hnt
 split at hz
 .rcases jBh.1 hz with rfl | hz
  .exact ⟨K8b _,hd32,by omega⟩
  split at hz
  .obtain rfl:=jBi.1 hz;exact ⟨by decide,by decide,by decide⟩
  cases hz
 cases hz
def upT(w:Str):Str:=w.map fun c=>c - 32
theorem ZWb:∀k:Fin 8,yWa ((k.val:Int)+1)≠ []/\(32:UInt8) ∉ yWa ((k.val:Int)+1)/\lowP (yWa ((k.val:Int)+1))=yWa ((k.val:Int)+1)/\upT (yWa ((k.val:Int)+1))≠ []/\(32:UInt8) ∉ upT (yWa ((k.val:Int)+1))/\lowP (upT (yWa ((k.val:Int)+1)))=yWa ((k.val:Int)+1)/\qcb (yWa ((k.val:Int)+1))=(k.val:Int)+1:=by decide
theorem ytb{c:zfa}(ok:wTa c)(he:cmdF c=⟨0,0⟩){s x:Str}(hw:yba s=x::argT c)(hx:lowP x=yWa c.Verb)(hs:s.length<=4000)(hv:qcb (yWa c.Verb)=c.Verb):ZPa s=(c,⟨0,0⟩):=by
 have h1:=ok.verb;unfold ZPa;rw[hw,if_neg (by omega)];have:ZLb (x::argT c)=c.Verb:=by show qcb (lowP x)=_;rw[hx,hv]
 rw[this,if_neg (by omega)];simp only[List.drop_succ_cons,List.drop_zero];rw[argsP_T ok];show finP c=_;unfold finP;rw[he];rfl
theorem qGa(x:Ses)(a b:List UInt8):zRa x (a++b)=zRa (zRa x a) b:=List.foldl_append
theorem suff_no{l:List UInt8}{c:UInt8}(h:c≠10):([13,10]:List UInt8).isSuffixOf (l++ [c])=false:=by
 rw[jCo];intro e;obtain ⟨t,ht⟩:=jBk.1 e;have:=congrArg List.getLast? ht;simp at this;exact h this.symm
theorem suff_yes(l:List UInt8):([13,10]:List UInt8).isSuffixOf ((l++ [13])++ [10])=true:=jBk.2 ⟨l,by simp⟩
theorem z6b(x:Ses)(hp:x.Server.Phase=0):∀(q p:List UInt8),(10:UInt8) ∉ q->(p++q).length<=4001->zRa (bufS x p) q=bufS x (p++q)
 | [],p,_,_=>by rw[jBj];rfl
 | c::q,p,h,hl=>by
  have hc:c≠10:=fun e=>h (by rw[e];simp)
  have e:v4a (bufS x p) c=bufS x (p++ [c]):=by
   unfold v4a;rw[if_pos (show (bufS x p).Server.Phase=0 from hp)];unfold JDa;rw[show (bufS x p).Server.Buffer=p from rfl,suff_no hc,if_neg (by decide),if_neg (by simp at hl ⊢;omega)];rfl
  show zRa (v4a (bufS x p) c) q=_;rw[e,z6b x hp q (p++ [c]) (fun hm=>h (by simp[hm])) (by simpa using hl)];simp
theorem Vwb(x:Ses)(hp:x.Server.Phase=0)(hb:x.Server.Buffer=[])(l:Str)(h10:(10:UInt8) ∉ l)(hl:l.length<=4000)(c:zfa)(hc:ZPa l=(c,⟨0,0⟩))(r:List UInt8):zRa x (l++13::10::r)=zRa (yma x c) r:=by
 have e0:bufS x []=x:=by
  have:bufS x []=bufS x x.Server.Buffer:=by rw[hb]
  rw[this];rfl
 have h1:=z6b x hp (l++ [13]) [] (by simp[h10]) (by simp;omega);rw[e0,jBm]at h1;rw[show l++13::10::r=(l++ [13])++10::r by simp,qGa,h1];show zRa (v4a (bufS x (l++ [13])) 10) r=_;have e:v4a (bufS x (l++ [13])) 10=yma x c:=by
  unfold v4a;rw[if_pos (show (bufS x (l++ [13])).Server.Phase=0 from hp)];unfold JDa;rw[show (bufS x (l++ [13])).Server.Buffer=l++ [13] from rfl,suff_yes,if_pos rfl];have ht:((l++ [13])++ [10]).take (((l++ [13])++ [10]).length - 2)=l:=by simp
  dsimp only;rw[ht,hc,if_neg (show ¬(0:Int)=18 by decide),if_pos rfl];show yma (bufS x []) c=_;rw[e0]
 rw[e]
theorem Vxb{s:Str}(h:qja s=true):(10:UInt8) ∉ s:=by
 unfold qja at h;simp only[jAh,decide_eq_true_eq,jAw]at h;obtain ⟨⟨⟨⟨h1,h2⟩,h3⟩,h4⟩,h5⟩:=h;unfold domP at h5;simp only[jAh,decide_eq_true_eq,jAw]at h5;intro hm;have hs:s=s.take (atP s)++s[atP s]::s.drop (atP s+1):=by
  rw[<-jCq h1,jEk]
 rw[hs]at hm;have hat:s[atP s]=64:=by
  have:=List.findIdx_getElem (xs:=s) (p:=(· ==64)) (w:=h1);exact (by simpa using this:s[List.findIdx (fun x=>x==64) s]=64)
 rcases jCc.1 hm with h6 | h6
 .exact absurd (h4 _ h6) (by decide)
 rcases jBh.1 h6 with h7 | h7
 .rw[hat]at h7;exact absurd h7 (by decide)
 exact absurd (h5.1.2 _ h7) (by decide)
theorem ZXb:∀k:Fin 8,(10:UInt8) ∉ Jca.getD k.val []:=by decide
theorem Vyb{n:Int}(h:0<=n/\n<=7):(10:UInt8) ∉ KUa n:=by
 have:=ZXb ⟨n.toNat,by omega⟩;exact this
theorem note_in{n:Int}(h:qBa n=true):0<=n/\n<=7:=by
 unfold qBa at h;simpa using h
theorem v7b:∀(l:List zba),(l.map (·.Address)).Nodup->jIa l=l
 | [],_=>rfl
 | r::t,h=>by
  rw[jCh,List.nodup_cons]at h;have no:∀x∈t,kTa r.Address x=false:=fun x hx=>by
   unfold kTa;rw[beq_eq_false_iff_ne];intro e;exact h.1 (by rw[<-e];exact jDz hx)
  have e1:t.filter (kTa r.Address)=[]:=List.filter_eq_nil_iff.2 fun x hx=>by rw[no x hx];decide
  have e2:t.filter (fun x=> !kTa r.Address x)=t:=List.filter_eq_self.2 fun x hx=>by rw[no x hx];rfl
  rw[Vma,e1,e2,v7b t h.2];rfl
theorem qHa(x:Ses)(c:UInt8)(b:List UInt8):zRa x (c::b)=zRa (v4a x c) b:=rfl
theorem QDa(x:Ses):zRa x []=x:=rfl
theorem qnb{x:Ses}{c:UInt8}(h:x.Server.Phase=1):v4a x c=Wba x c:=by
 unfold v4a;rw[if_neg (by rw[h];decide),if_pos h]
theorem ite34(p:Prop)[Decidable p]:(if p then (4:Int) else 3)≠0/\(if p then (4:Int) else 3)≠1/\(if p then (4:Int) else 3)≠2:=by
 split <;> decide
section
theorem Vzb{s:Str}(h:v3a s=true):(10:UInt8) ∉ s:=by
 intro hm;unfold v3a at h;simp only[jAh,jAw]at h;exact absurd (h.2 _ hm) (by decide)
theorem dec_no10(u:Nat):(10:UInt8) ∉ Lib.decDigits u:=by
 intro h;have:=jGa u _ h;have e:(10:UInt8).toNat=10:=rfl;omega
theorem ZYb:∀k:Fin 8,(10:UInt8) ∉ yWa ((k.val:Int)+1):=by decide
theorem cmd_no10{c:zfa}(ok:wTa c):(10:UInt8) ∉ cmdT c:=by
 have hv:=ok.verb;have hw:=ZYb ⟨(c.Verb - 1).toNat,by omega⟩;dsimp only at hw;rw[show (((c.Verb - 1).toNat:Nat):Int)+1=c.Verb by omega]at hw;have ha:(10:UInt8) ∉ c.Address:=by
  by_cases h:c.Address=[]
  .rw[h];simp
  refine Vxb (ok.addr ?_);have hu:=ok.used;unfold VXa at hu;simp only[jAh,jBs,beq_iff_eq]at hu;rcases hu.1.1.1.2 with (h2 | h2) | h2
  .exact .inr ⟨h2,h⟩
  .exact .inl h2
  exact absurd h2 h
 have hd:=dec_no10 c.Size.toNat;have hc:=Vyb ok.note;unfold cmdT ZJa argT;split
 .rename_i h1;simp[hw,Vzb (ok.name h1)]
 split
 .split <;> simp[hw,ha,hd]
 split
 .split <;> simp[hw,ha,hc]
 split
 .split <;> simp[hw,hd]
 simp[hw]
theorem VAb{c:zfa}(ok:wTa c):ZPa (cmdT c)=(c,⟨0,0⟩):=by
 have hverb:=ok.verb;obtain ⟨f1,f2,f3,f4,f5,f6,f7⟩:=ZWb ⟨(c.Verb - 1).toNat,by omega⟩;dsimp only at f1 f2 f3 f4 f5 f6 f7;rw[show (((c.Verb - 1).toNat:Nat):Int)+1=c.Verb by omega]at f1 f2 f3 f4 f5 f6 f7;have haw:=ZVb ok;have:=Qxa ok;exact ytb ok (jbb ok) (z4b (argT c) (yWa c.Verb) fun z hz=>by
  rcases jBh.1 hz with rfl | hz
  .exact ⟨f1,f2⟩
  exact ⟨(haw z hz).1,(haw z hz).2.1⟩) f3 (by omega) f7
theorem qob{x:Ses}(hp:x.Server.Phase=0)(hb:x.Server.Buffer=[]){c:zfa}(ok:wTa c)(b:List UInt8):zRa x (cmdT c++ [13,10]++b)=zRa (yma x c) b:=by
 have:=Qxa ok;rw[jAx];exact Vwb x hp hb (cmdT c) (cmd_no10 ok) (by omega) c (VAb ok) b
def sv(nm:Str)(sz mx:Int)(g ml:Bool)(f:Str)(tos:List zba):zsa:=⟨nm,sz,mx,0,g,ml,f,tos,[],[],0,0,false,0,false,false,0⟩
def dv(nm:Str)(sz mx:Int)(f:Str)(tos:List zba)(D:List UInt8)(d:Int):zsa:=⟨nm,sz,mx,1,true,true,f,tos,[],D,0,d,false,0,false,false,0⟩
def kv(nm:Str)(sz mx:Int)(f:Str)(tos:List zba)(D:List UInt8)(k:Int):zsa:=⟨nm,sz,mx,2,true,true,f,tos,[],D,0,0,true,k,true,false,0⟩
def xv(nm:Str)(sz mx:Int)(k:Int):zsa:=⟨nm,sz,mx,2,true,false,[],[],[],[],0,0,false,k,true,true,0⟩
def ev(nm:Str)(sz mx:Int):zsa:=⟨nm,sz,mx,0,true,false,[],[],[],[],0,0,false,0,false,false,1⟩
def jRa(nm:Str)(sz mx:Int):zra:=⟨250,[nm,Q5b ++Lib.decDigits sz.toNat,Vra++Lib.decDigits mx.toNat]⟩
def rOk:zra:=⟨250,[okW]⟩
def rMany:zra:=⟨452,[[109,97,110,121]]⟩
def rGo:zra:=⟨354,[[103,111,32,111,110]]⟩
def ZRa:zra:=⟨552,[job]⟩
def K6a:zra:=⟨503,[zYb]⟩
def rBye:zra:=⟨221,[[98,121,101]]⟩
def rId(nm:Str):zra:=⟨250,[nm++ [45]++Lib.decDigits 1]⟩
section
variable {nm:Str} {sz mx:Int} {f:Str} {R:List zra} {M:List zua}
theorem x_mail{b:Nat}(h:(b:Int)<=sz):yma ⟨sv nm sz mx true false [] [],R,M⟩ (Yia f b)=⟨sv nm sz mx true true f [],R++ [rOk],M⟩:=by
 show (if sz < (b:Int) then _ else _)=_;rw[if_neg (by omega)];rfl
theorem x_large{b:Nat}(h:sz < (b:Int)):yma ⟨sv nm sz mx true false [] [],R,M⟩ (Yia f b)=⟨sv nm sz mx true false [] [],R++ [ZRa],M⟩:=by
 show (if sz < (b:Int) then _ else _)=_;rw[if_pos h];rfl
theorem x_rcpt{K:Nat}(hk:mx=(K:Int))(done:List zba)(r:zba)(hn:((done++ [r]).map (·.Address)).Nodup):
 yma ⟨sv nm sz mx true true f (done.take K),R,M⟩ (Voa r)=⟨sv nm sz mx true true f ((done++ [r]).take K),R++ [if done.length < K then rOk else rMany],M⟩:=by
 have e:addR ⟨sv nm sz mx true true f (done.take K),R,M⟩ (Voa r)=done.take K++ [r]:=by
  refine v7b _ (List.Sublist.nodup ?_ hn);exact ((List.take_sublist K done).append (List.Sublist.refl [r])).map _
 have e1:yma ⟨sv nm sz mx true true f (done.take K),R,M⟩ (Voa r)=WMa ⟨sv nm sz mx true true f (done.take K),R,M⟩ (Voa r):=rfl;rw[e1];unfold WMa;rw[e];show (if mx < ((done.take K++ [r]).length:Int) then _ else _)=_;rw[jAl,jBt,List.length_singleton];by_cases h:done.length < K
 .rw[if_neg (by omega),if_pos h,jCm (by omega),jCm (by simp;omega)];rfl
 rw[if_pos (by omega),if_neg h,List.take_append_of_le_length (by omega)];rfl
theorem x_norcpt(r:zba):yma ⟨sv nm sz mx true false [] [],R,M⟩ (Voa r)=⟨sv nm sz mx true false [] [],R++ [K6a],M⟩:=rfl
theorem x_data{T:List zba}(h:T≠ []):yma ⟨sv nm sz mx true true f T,R,M⟩ Jia=⟨dv nm sz mx f T [] 0,R++ [rGo],M⟩:=by
 cases T with
 | nil=>exact absurd rfl h
 | cons r t=>rfl
theorem x_nodata:yma ⟨sv nm sz mx true false [] [],R,M⟩ Jia=⟨sv nm sz mx true false [] [],R++ [K6a],M⟩:=rfl
theorem x_chunk{T:List zba}(h:T≠ []){b:Nat}(hb:b≠0):yma ⟨sv nm sz mx true true f T,R,M⟩ (Q5a b)=⟨kv nm sz mx f T [] b,R,M⟩:=by
 cases T with
 | nil=>exact absurd rfl h
 | cons r t=>
  show (if (b:Int)=0 then _ else _)=_;rw[if_neg (by omega)];rfl
theorem VBb{b:Nat}(hb:b≠0):yma ⟨sv nm sz mx true false [] [],R,M⟩ (Q5a b)=⟨xv nm sz mx b,R,M⟩:=by
 show (if (b:Int)=0 then _ else _)=_;rw[if_neg (by omega)];rfl
theorem jKb{s:zsa}{m:zta}(h1:s.Lost=0)(h2:jPa s.Data=(m,true))(h3:s.Count=0):Kva ⟨s,R,M⟩=abS ⟨{s with Count:=1},R++ [rId s.Name],M++ [⟨⟨s.From,s.To,s.Name++ [45]++Lib.decDigits 1⟩,m⟩]⟩:=by
 unfold Kva idS;dsimp only;rw[h1,h2,h3,if_neg (by decide),if_neg (by simp)];rfl
variable {T:List zba}
theorem JMa(D:List UInt8)(d:Int)(c:UInt8)(h0:¬(d=0/\c=46))(h1:¬(d=1/\c=13))(h2:d≠2)(hl:(D.length:Int) < sz):
 v4a ⟨dv nm sz mx f T D d,R,M⟩ c=⟨dv nm sz mx f T (D++ [c]) (if c=13 then 4 else if c=10/\d=4 then 0 else 3),R,M⟩:=by
 rw[qnb (x:=⟨dv nm sz mx f T D d,R,M⟩) rfl];unfold Wba;rw[show (⟨dv nm sz mx f T D d,R,M⟩:Ses).Server.Dots=d from rfl,if_neg h0,if_neg h1,if_neg (fun e=>h2 e.1),if_neg h2];have e:z2a ⟨dv nm sz mx f T D d,R,M⟩ c=⟨dv nm sz mx f T (D++ [c]) d,R,M⟩:=by
  unfold z2a;rw[if_pos (show ((⟨dv nm sz mx f T D d,R,M⟩:Ses).Server.Data.length:Int) < (⟨dv nm sz mx f T D d,R,M⟩:Ses).Server.Size from hl)];rfl
 rw[e];rfl
theorem d_mid:∀(q:Str) (c0:UInt8) (D:List UInt8),noCR (c0::q)=true->((D.length+q.length+2:Nat):Int)<=sz->
 zRa ⟨dv nm sz mx f T D (if c0=13 then 4 else 3),R,M⟩ (q++ [13,10])=⟨dv nm sz mx f T (D++q++ [13,10]) 0,R,M⟩
 | [],c0,D,h,hl=>by
  obtain ⟨i0,i1,i2⟩:=ite34 (c0=13);simp only[jBw]at hl;have s1:=JMa (nm:=nm) (sz:=sz) (mx:=mx) (f:=f) (T:=T) (R:=R) (M:=M) D (if c0=13 then 4 else 3) 13 (fun e=>i0 e.1) (fun e=>i1 e.1) i2 (by omega);rw[if_pos rfl]at s1;have s2:=JMa (nm:=nm) (sz:=sz) (mx:=mx) (f:=f) (T:=T) (R:=R) (M:=M) (D++ [13]) 4 10 (by decide) (by decide) (by decide) (by simp;omega);rw[if_neg (by decide),if_pos ⟨rfl,rfl⟩]at s2;rw[jBm,qHa,s1,qHa,s2,QDa];simp
 | c::q,c0,D,h,hl=>by
  obtain ⟨i0,i1,i2⟩:=ite34 (c0=13);obtain ⟨n1,n2⟩:=vLa.1 h;simp only[jAu]at hl;have s1:=JMa (nm:=nm) (sz:=sz) (mx:=mx) (f:=f) (T:=T) (R:=R) (M:=M) D (if c0=13 then 4 else 3) c (fun e=>i0 e.1) (fun e=>i1 e.1) i2 (by omega);have e:(if c=13 then (4:Int) else if c=10/\(if c0=13 then (4:Int) else 3)=4 then 0 else 3)=if c=13 then 4 else 3:=by
   by_cases h13:c=13
   .rw[if_pos h13,if_pos h13]
   rw[if_neg h13,if_neg h13,if_neg];rintro ⟨e1,e2⟩;by_cases hc:c0=13
   .exact n1 ⟨hc,e1⟩
   rw[if_neg hc]at e2;exact absurd e2 (by decide)
  rw[e]at s1;rw[jBu,qHa,s1,d_mid q c (D++ [c]) n2 (by simp;omega)];simp
theorem d_dot(D:List UInt8):v4a ⟨dv nm sz mx f T D 0,R,M⟩ 46=⟨dv nm sz mx f T D 1,R,M⟩:=by
 rw[qnb (x:=⟨dv nm sz mx f T D 0,R,M⟩) rfl];unfold Wba;rw[if_pos ⟨rfl,rfl⟩];rfl
theorem d_line(x:Str)(D:List UInt8)(h:noCR x=true)(hl:((D.length+x.length+2:Nat):Int)<=sz):
 zRa ⟨dv nm sz mx f T D 0,R,M⟩ (Kma x++ [13,10])=⟨dv nm sz mx f T (D++x++ [13,10]) 0,R,M⟩:=by
 cases x with
 | nil=>
  simp only[jBw]at hl;have s1:=JMa (nm:=nm) (sz:=sz) (mx:=mx) (f:=f) (T:=T) (R:=R) (M:=M) D 0 13 (by decide) (by decide) (by decide) (by omega);rw[if_pos rfl]at s1;have s2:=JMa (nm:=nm) (sz:=sz) (mx:=mx) (f:=f) (T:=T) (R:=R) (M:=M) (D++ [13]) 4 10 (by decide) (by decide) (by decide) (by simp;omega);rw[if_neg (by decide),if_pos ⟨rfl,rfl⟩]at s2;rw[show Kma []++ [13,10]=[13,10] from rfl,qHa,s1,qHa,s2,QDa];simp
 | cons c q=>
  simp only[jAu]at hl;by_cases hc:c=46
  .subst hc;have s1:=JMa (nm:=nm) (sz:=sz) (mx:=mx) (f:=f) (T:=T) (R:=R) (M:=M) D 1 46 (by decide) (by decide) (by decide) (by omega);rw[if_neg (by decide),if_neg (by decide)]at s1;have hm:=d_mid (nm:=nm) (sz:=sz) (mx:=mx) (f:=f) (T:=T) (R:=R) (M:=M) q 46 (D++ [46]) h (by simp;omega);rw[if_neg (by decide)]at hm;rw[show Kma (46::q)++ [13,10]=46::46::(q++ [13,10]) from rfl,qHa,d_dot,qHa,s1,hm];simp
  have e:Kma (c::q)=c::q:=by
   unfold Kma dot0;rw[if_neg (by simpa using hc)]
  rw[e];have s1:=JMa (nm:=nm) (sz:=sz) (mx:=mx) (f:=f) (T:=T) (R:=R) (M:=M) D 0 c (fun e=>hc e.2) (by simp) (by decide) (by omega);rw[show (if c=13 then (4:Int) else if c=10/\(0:Int)=4 then 0 else 3)=if c=13 then 4 else 3 by
   rw[if_neg (show ¬(c=10/\(0:Int)=4) from fun e=>absurd e.2 (by decide))]]at s1
  have hm:=d_mid (nm:=nm) (sz:=sz) (mx:=mx) (f:=f) (T:=T) (R:=R) (M:=M) q c (D++ [c]) h (by simp;omega);rw[jBu,qHa,s1,hm];simp
theorem v8b(b:List UInt8):∀(ls:List Str) (D:List UInt8),(∀x∈ls,noCR x=true)->((D.length+(zIa ls).length:Nat):Int)<=sz->
 zRa ⟨dv nm sz mx f T D 0,R,M⟩ (yca ls++b)=zRa ⟨dv nm sz mx f T (D++zIa ls) 0,R,M⟩ b
 | [],D,_,_=>by rw[vrb,jBj];rfl
 | x::ls,D,h,hl=>by
  have hx:=Jha x ls;have h1:=d_line (nm:=nm) (sz:=sz) (mx:=mx) (f:=f) (T:=T) (R:=R) (M:=M) x D (h x (by simp)) (by omega);have h2:=v8b b ls (D++x++ [13,10]) (fun y hy=>h y (by simp[hy])) (by simp;omega);have e:yca (x::ls)++b=(Kma x++ [13,10])++(yca ls++b):=by unfold yca;simp
  rw[e,qGa,h1,h2,ZMa];simp
theorem d_cr(D:List UInt8):v4a ⟨dv nm sz mx f T D 1,R,M⟩ 13=⟨dv nm sz mx f T D 2,R,M⟩:=by
 rw[qnb (x:=⟨dv nm sz mx f T D 1,R,M⟩) rfl];unfold Wba;rw[if_neg (fun e=>absurd e.2 (by decide)),if_pos ⟨rfl,rfl⟩];rfl
theorem d_end{D:List UInt8}{m:zta}(h:jPa D=(m,true)):v4a ⟨dv nm sz mx f T D 2,R,M⟩ 10=⟨ev nm sz mx,R++ [rId nm],M++ [⟨⟨f,T,nm++ [45]++Lib.decDigits 1⟩,m⟩]⟩:=by
 rw[qnb (x:=⟨dv nm sz mx f T D 2,R,M⟩) rfl];unfold Wba;rw[if_neg (fun e=>absurd e.2 (by decide)),if_neg (fun e=>absurd e.2 (by decide)),if_pos ⟨rfl,rfl⟩];rw[show (⟨{(⟨dv nm sz mx f T D 2,R,M⟩:Ses).Server with Phase:=0,Dots:=0},R,M⟩:Ses)=⟨⟨nm,sz,mx,0,true,true,f,T,[],D,0,0,false,0,false,false,0⟩,R,M⟩ from rfl,jKb (m:=m) rfl h rfl];rfl
theorem qpb{x:Ses}{c:UInt8}(h:x.Server.Phase=2):v4a x c=(if (bif x.Server.Ignore then x else z2a x c).Server.Left - 1=0 then yga ⟨{(bif x.Server.Ignore then x else z2a x c).Server with Left:=(bif x.Server.Ignore then x else z2a x c).Server.Left - 1},(bif x.Server.Ignore then x else z2a x c).replies,(bif x.Server.Ignore then x else z2a x c).mails⟩ else ⟨{(bif x.Server.Ignore then x else z2a x c).Server with Left:=(bif x.Server.Ignore then x else z2a x c).Server.Left - 1},(bif x.Server.Ignore then x else z2a x c).replies,(bif x.Server.Ignore then x else z2a x c).mails⟩):=by
 unfold v4a;rw[if_neg (by rw[h];decide),if_neg (by rw[h];decide),if_pos h]
theorem k_keep(D:List UInt8)(k:Int)(c:UInt8)(hl:(D.length:Int) < sz):z2a ⟨kv nm sz mx f T D k,R,M⟩ c=⟨kv nm sz mx f T (D++ [c]) k,R,M⟩:=by
 unfold z2a;rw[if_pos (show ((⟨kv nm sz mx f T D k,R,M⟩:Ses).Server.Data.length:Int) < (⟨kv nm sz mx f T D k,R,M⟩:Ses).Server.Size from hl)];rfl
theorem k_feed:∀(q D:List UInt8),((D.length+q.length:Nat):Int)<=sz->zRa ⟨kv nm sz mx f T D ((q.length+1:Nat):Int),R,M⟩ q=⟨kv nm sz mx f T (D++q) 1,R,M⟩
 | [],D,_=>by rw[jBj];rfl
 | c::q,D,h=>by
  simp only[jAu]at h;have e:v4a ⟨kv nm sz mx f T D (((c::q).length+1:Nat):Int),R,M⟩ c=⟨kv nm sz mx f T (D++ [c]) ((q.length+1:Nat):Int),R,M⟩:=by
   rw[qpb (x:=⟨kv nm sz mx f T D _,R,M⟩) rfl];show (if (z2a _ c).Server.Left - 1=0 then yga ⟨{(z2a _ c).Server with Left:=(z2a _ c).Server.Left - 1},(z2a _ c).replies,(z2a _ c).mails⟩ else ⟨{(z2a _ c).Server with Left:=(z2a _ c).Server.Left - 1},(z2a _ c).replies,(z2a _ c).mails⟩)=_;rw[k_keep D _ c (by omega)];have e1:(((c::q).length+1:Nat):Int) - 1=((q.length+1:Nat):Int):=by simp only[jAu];omega
   show (if (((c::q).length+1:Nat):Int) - 1=0 then _ else (⟨kv nm sz mx f T (D++ [c]) ((((c::q).length+1:Nat):Int) - 1),R,M⟩:Ses))=_;rw[e1,if_neg (by omega)]
  rw[qHa,e,k_feed q (D++ [c]) (by simp;omega)];simp
theorem k_end{D:List UInt8}{c:UInt8}{m:zta}(hl:(D.length:Int) < sz)(h:jPa (D++ [c])=(m,true)):v4a ⟨kv nm sz mx f T D 1,R,M⟩ c=⟨ev nm sz mx,R++ [rId nm],M++ [⟨⟨f,T,nm++ [45]++Lib.decDigits 1⟩,m⟩]⟩:=by
 rw[qpb (x:=⟨kv nm sz mx f T D 1,R,M⟩) rfl];show (if (z2a _ c).Server.Left - 1=0 then yga ⟨{(z2a _ c).Server with Left:=(z2a _ c).Server.Left - 1},(z2a _ c).replies,(z2a _ c).mails⟩ else ⟨{(z2a _ c).Server with Left:=(z2a _ c).Server.Left - 1},(z2a _ c).replies,(z2a _ c).mails⟩)=_;rw[k_keep D _ c hl];refine (if_pos (show (1:Int) - 1=0 by decide)).trans ?_;show Kva ⟨⟨nm,sz,mx,0,true,true,f,T,[],D++ [c],0,0,true,0,false,false,0⟩,R,M⟩=_;rw[jKb (m:=m) rfl h rfl];rfl
theorem VCb:∀(q:List UInt8),q≠ []->zRa ⟨xv nm sz mx (q.length:Int),R,M⟩ q=⟨sv nm sz mx true false [] [],R++ [K6a],M⟩
 | [],h=>absurd rfl h
 | [c],_=>by
  rw[qHa,qpb (x:=⟨xv nm sz mx _,R,M⟩) rfl];rfl
 | c::d::q,_=>by
  have e:v4a ⟨xv nm sz mx ((c::d::q).length:Int),R,M⟩ c=⟨xv nm sz mx ((d::q).length:Int),R,M⟩:=by
   rw[qpb (x:=⟨xv nm sz mx _,R,M⟩) rfl];have e1:((c::d::q).length:Int) - 1=((d::q).length:Int):=by simp only[jAu];omega
   show (if ((c::d::q).length:Int) - 1=0 then _ else (⟨xv nm sz mx (((c::d::q).length:Int) - 1),R,M⟩:Ses))=_;rw[e1,if_neg (by simp only[jAu];omega)]
  rw[qHa,e];exact VCb (d::q) (by simp)
end
end
section
theorem yha{x:Ses}(hp:x.Server.Phase=0)(hb:x.Server.Buffer=[]){c:zfa}(ok:wTa c):zRa x (cmdT c++ [13,10])=yma x c:=by
 have:=qob hp hb ok []
 rwa [jBj]at this
structure Ctx (n nm:Str) (m:zua) (sz mx:Int) (K:Nat):Prop where
 hn:v3a n=true
 hnm:v3a nm=true/\nm.length<=40
 mail:(QMa m).Code=0
 size:1<=sz/\sz<=12000
 many:mx=(K:Int)
 k:1<=K/\K<=60
 env:jFa m.Envelope
 msg:ypa m.Message
 n6:n.length<=10
def rG(nm:Str):zra:=⟨220,[nm]⟩
def repl(nm:Str)(sz mx:Int)(K j:Nat):List zra:=jRa nm sz mx::rOk::(List.range j).map fun i=>if i < K then rOk else rMany
def rhoP(nm:Str)(m:zua)(sz mx:Int)(K:Nat):List zra:=repl nm sz mx K m.Envelope.To.length++if rawP m.Message=true then [] else [rGo]
def s00(nm:Str)(sz mx:Int):Ses:=⟨sv nm sz mx false false [] [],[],[]⟩
def gotM(nm:Str)(m:zua)(K:Nat):zua:=⟨⟨m.Envelope.From,m.Envelope.To.take K,nm++ [45]++Lib.decDigits 1⟩,m.Message⟩
theorem VDb(nm:Str)(sz mx:Int)(K j:Nat):repl nm sz mx K (j+1)=repl nm sz mx K j++ [if j < K then rOk else rMany]:=by
 unfold repl;rw[List.range_succ,List.map_append];rfl
theorem YLa(nm:Str)(sz mx:Int)(K j:Nat):(repl nm sz mx K j).length=j+2:=by simp[repl]
section
variable {n nm:Str} {m:zua} {sz mx:Int} {K:Nat}
theorem Ctx.good(h:Ctx n nm m sz mx K):GoodM m:=k1a h.mail
theorem Ctx.nodup(h:Ctx n nm m sz mx K):(m.Envelope.To.map (·.Address)).Nodup:=by
 have:=(WJa h.mail).1;unfold envF at this;split at this
 .exact absurd this (by decide)
 split at this
 .exact absurd this (by decide)
 split at this
 .exact absurd this (by decide)
 exact (YGa this).2
theorem AB_1(n:Str)(m:zua):AB n m 1=cmdT (Jja n)++ [13,10]:=by
 rw[Vqa];show []++cmB n m 1=_;rw[jBm];rfl
theorem AB_2(n:Str)(m:zua):AB n m 2=AB n m 1++(cmdT (Yia m.Envelope.From (zia m.Message).length)++ [13,10]):=by
 rw[Vqa];rfl
theorem AB_r{j:Nat}(hj:j < m.Envelope.To.length):AB n m (j+3)=AB n m (j+2)++(cmdT (Voa m.Envelope.To[j])++ [13,10]):=by
 rw[Vqa]
 congr 1
 unfold cmB;rw[if_neg (by omega),if_neg (by omega),show j+2+1 - 3=j by omega,jAj hj]
theorem AB_l:AB n m (m.Envelope.To.length+3)=AB n m (m.Envelope.To.length+2)++if rawP m.Message=true then cmdT (Q5a (zia m.Message).length)++ [13,10]++zia m.Message else cmdT Jia++ [13,10]:=by
 rw[Vqa]
 congr 1
 have h1:¬m.Envelope.To.length+2+1=1:=by omega
 have h2:=(show m.Envelope.To.length+2+1 - 3=m.Envelope.To.length by omega);unfold cmB;rw[if_neg h1];by_cases h3:m.Envelope.To.length+2+1=2
 .omega
 rw[if_neg h3,h2,jBr (jAn _)]
theorem sv_1(h:Ctx n nm m sz mx K):zRa (s00 nm sz mx) (AB n m 1)=⟨sv nm sz mx true false [] [],[jRa nm sz mx],[]⟩:=by
 rw[AB_1,yha (x:=s00 nm sz mx) rfl rfl (k6b h.hn)];rfl
theorem qqb(h:Ctx n nm m sz mx K):wTa (Yia m.Envelope.From (zia m.Message).length):=ydb h.good.frm (by have:=h.good.big;omega)
theorem sv_AB(h:Ctx n nm m sz mx K)(hb:((zia m.Message).length:Int)<=sz):∀j,j<=m.Envelope.To.length->
 zRa (s00 nm sz mx) (AB n m (j+2))=⟨sv nm sz mx true true m.Envelope.From ((m.Envelope.To.take j).take K),repl nm sz mx K j,[]⟩
 | 0,_=>by
  rw[AB_2,qGa,sv_1 h,yha rfl rfl (qqb h),x_mail hb,List.take_zero,List.take_nil];rfl
 | j+1,hj=>by
  rw[AB_r (by omega),qGa,sv_AB h hb j (by omega),yha rfl rfl (k7b (h.good.tos _ (jDj (by omega)))),x_rcpt h.many,VDb,jBt,Nat.min_eq_left (by omega),List.take_succ_eq_append_getElem (by omega)];rw[<-List.take_succ_eq_append_getElem (by omega)];exact h.nodup.sublist ((List.take_sublist _ _).map _)
theorem sx_AB(h:Ctx n nm m sz mx K)(hb:sz < ((zia m.Message).length:Int)):∀j,j<=m.Envelope.To.length->
 zRa (s00 nm sz mx) (AB n m (j+2))=⟨sv nm sz mx true false [] [],jRa nm sz mx::ZRa::List.replicate j K6a,[]⟩
 | 0,_=>by
  rw[AB_2,qGa,sv_1 h,yha rfl rfl (qqb h),x_large hb];rfl
 | j+1,hj=>by
  rw[AB_r (by omega),qGa,sx_AB h hb j (by omega),yha rfl rfl (k7b (h.good.tos _ (jDj (by omega)))),x_norcpt,List.replicate_succ'];rfl
theorem jLb(h:Ctx n nm m sz mx K):m.Envelope.To.take K≠ []:=by
 intro e;have:=congrArg List.length e;have h1:=h.good.many;have h2:=h.k;rw[jBt]at this;simp only[jBw]at this;omega
theorem VEb(h:Ctx n nm m sz mx K)(hb:((zia m.Message).length:Int)<=sz):∃U c,AB n m (m.Envelope.To.length+3)++V8a m=U++ [c]/\
 (zRa (s00 nm sz mx) U).replies=rhoP nm m sz mx K/\(zRa (s00 nm sz mx) U).mails=[]/\
 zRa (s00 nm sz mx) (U++ [c])=⟨ev nm sz mx,rhoP nm m sz mx K++ [rId nm],[gotM nm m K]⟩:=by
 have hr:=readP_rt (WJa h.mail).2;have hs:=sv_AB h hb m.Envelope.To.length (jAn _);rw[List.take_length]at hs;have hbig:=h.good.big;have hT:=jLb h;unfold V8a rhoP;rw[AB_l];cases hraw:rawP m.Message with
 | true=>
  rw[if_pos rfl,if_pos rfl,if_pos rfl,jBj,jBj];have h2:=vsb m.Message;obtain ⟨B,c,hB⟩:∃B c,zia m.Message=B++ [c]:=⟨(zia m.Message).dropLast,(zia m.Message).getLast (by intro e;rw[e]at h2;simp at h2),(List.dropLast_concat_getLast _).symm⟩;rw[hB]at hr h2 hb hbig ⊢;simp only[jAl,List.length_singleton]at h2 hb hbig;have e1:zRa (s00 nm sz mx) (AB n m (m.Envelope.To.length+2)++(cmdT (Q5a (B++ [c]).length)++ [13,10]++B))=⟨kv nm sz mx m.Envelope.From (m.Envelope.To.take K) B 1,repl nm sz mx K m.Envelope.To.length,[]⟩:=by
   rw[qGa,hs,qob rfl rfl (Qwa (by simp;omega)),x_chunk hT (by simp),jAl,List.length_singleton,k_feed B [] (by simp;omega),jBm]
  refine ⟨AB n m (m.Envelope.To.length+2)++(cmdT (Q5a (B++ [c]).length)++ [13,10]++B),c,by simp,by rw[e1],by rw[e1],?_⟩;rw[qGa,e1,qHa,QDa,k_end (by omega) hr];rfl
 | false=>
  rw[if_neg (by decide),if_neg (by decide),if_neg (by decide)];have hj:=V3a (zia m.Message);rw[fl_end (Qxb hraw),jBj]at hj;have e1:zRa (s00 nm sz mx) (AB n m (m.Envelope.To.length+2)++(cmdT Jia++ [13,10])++(yca (fl [] (zia m.Message)).1++ [46,13]))=⟨dv nm sz mx m.Envelope.From (m.Envelope.To.take K) (zia m.Message) 2,repl nm sz mx K m.Envelope.To.length++ [rGo],[]⟩:=by
   rw[qGa,qGa _ (AB n m (m.Envelope.To.length+2)),hs,yha rfl rfl Jka,x_data hT,v8b [46,13] (fl [] (zia m.Message)).1 [] (K0a _) (by rw[hj];simpa using hb),jBm,hj,qHa,d_dot,qHa,d_cr,QDa]
  refine ⟨AB n m (m.Envelope.To.length+2)++(cmdT Jia++ [13,10])++(yca (fl [] (zia m.Message)).1++ [46,13]),10,by unfold vwb;simp,by rw[e1],by rw[e1],?_⟩;rw[qGa,e1,qHa,QDa,d_end hr];rfl
theorem sv_data(h:Ctx n nm m sz mx K)(hb:((zia m.Message).length:Int)<=sz)(hraw:rawP m.Message=false):(zRa (s00 nm sz mx) (AB n m (m.Envelope.To.length+3))).replies=rhoP nm m sz mx K:=by
 have hs:=sv_AB h hb m.Envelope.To.length (jAn _);rw[List.take_length]at hs;unfold rhoP;rw[AB_l,hraw,if_neg (by decide),if_neg (by decide),qGa,hs,yha rfl rfl Jka,x_data (jLb h)]
theorem sx_last(h:Ctx n nm m sz mx K)(hb:sz < ((zia m.Message).length:Int)):zRa (s00 nm sz mx) (AB n m (m.Envelope.To.length+3))=⟨sv nm sz mx true false [] [],jRa nm sz mx::ZRa::List.replicate (m.Envelope.To.length+1) K6a,[]⟩:=by
 have h2:=vsb m.Message;have hbig:=h.good.big;rw[AB_l,qGa,sx_AB h hb _ (jAn _),List.replicate_succ'];split
 .rw[qob rfl rfl (Qwa (by omega)),VBb (by omega),VCb _ (by intro e;rw[e]at h2;simp at h2)];rfl
 rw[yha rfl rfl Jka,x_nodata];rfl
theorem v9b(x:Ses)(hp:x.Server.Phase=0)(hb:x.Server.Buffer=[]):(zRa x K2a).replies=x.replies++ [rBye]/\(zRa x K2a).mails=x.mails:=by
 unfold K2a;rw[yha hp hb ycb];exact ⟨rfl,rfl⟩
def okR(r:zra):Bool:=decide (200<=r.Code) && decide (r.Code<=599) && decide (1<=r.Lines.length) && decide (r.Lines.length<=3) && r.Lines.all fun s=>decide (s.length<=60) && !s.any rlnC
theorem Wda{r:zra}(h:okR r=true):ROk r/\(repB r).length<=200:=by
 unfold okR at h;simp only[jAh,decide_eq_true_eq,jAw,jCn]at h;obtain ⟨⟨⟨⟨h1,h2⟩,h3⟩,h4⟩,h5⟩:=h;refine ⟨⟨⟨r.Code.toNat,by omega,by omega,by omega⟩,by omega,fun s hs=>⟨by have:=(h5 s hs).1;omega,(h5 s hs).2⟩⟩,?_⟩;have key:∀l:List Str,(∀s∈l,s.length<=60)->(zIa (prn (dig3 r.Code.toNat) l)).length<=66 * l.length:=by
  intro l;induction l with
  | nil=>intro _;exact jAn _
  | cons x l ih=>
   intro hl;rw[k2b,Jha];have:=ih fun s hs=>hl s (by simp[hs])
   have h1:=hl x (by simp);simp only[jAl,jAu,V2a];omega
 have:=key r.Lines fun s hs=>(h5 s hs).1
 unfold repB;omega
theorem qrb{s:Str}(h:v3a s=true):s.any rlnC=false:=by
 unfold v3a at h;simp only[jAh,jAw]at h;rw[jCj];intro c hc hr;unfold rlnC at hr;simp only[jBs,beq_iff_eq]at hr;rcases hr with rfl | rfl
 .exact absurd (h.2 _ hc) (by decide)
 exact absurd (h.2 _ hc) (by decide)
theorem yub(u:Nat):(Lib.decDigits u).any rlnC=false:=by
 rw[jCj];intro c hc hr;have:=jGa u c hc;unfold rlnC at hr;simp only[jBs,beq_iff_eq]at hr;have e1:(13:UInt8).toNat=13:=rfl;have e2:(10:UInt8).toNat=10:=rfl;rcases hr with rfl | rfl <;> omega
theorem VFb{c:Int}{l:List Str}(hc:200<=c/\c<=599)(h1:1<=l.length/\l.length<=3)(h:∀s∈l,s.length<=60/\s.any rlnC=false):okR ⟨c,l⟩=true:=by
 unfold okR;simp only[jAh,decide_eq_true_eq,jAw,jCn];exact ⟨⟨⟨⟨hc.1,hc.2⟩,h1.1⟩,h1.2⟩,h⟩
theorem okR_G(h:Ctx n nm m sz mx K):okR (rG nm)=true:=VFb (by decide) ⟨jAn 1,by show 1<=3;decide⟩ fun s hs=>by
 have h1:=h.hnm.2;rw[jBi.1 hs];exact ⟨by omega,qrb h.hnm.1⟩
theorem wab(h:Ctx n nm m sz mx K):okR (jRa nm sz mx)=true:=VFb (by decide) ⟨by show 1<=3;decide,by show 3<=3;decide⟩ fun s hs=>by
 have h1:=h.hnm.2;have h2:=yGa 6 sz.toNat (by have:=h.size;omega);have h3:=yGa 6 mx.toNat (by have:=h.many;have:=h.k;omega);rcases jBh.1 hs with rfl | hs
 .exact ⟨by omega,qrb h.hnm.1⟩
 rcases jBh.1 hs with rfl | hs
 .refine ⟨?_,by rw[List.any_append,yub];rfl⟩;rw[jAl];have:Q5b.length=5:=rfl;omega
 rw[jBi.1 hs];refine ⟨?_,by rw[List.any_append,yub];rfl⟩;rw[jAl];have:Vra.length=11:=rfl;omega
theorem okR_Id(h:Ctx n nm m sz mx K):okR (rId nm)=true:=VFb (by decide) ⟨jAn 1,by show 1<=3;decide⟩ fun s hs=>by
 have h1:=h.hnm.2;have h2:=yGa 6 1 (by omega);rw[jBi.1 hs];refine ⟨?_,by rw[List.any_append,List.any_append,yub,qrb h.hnm.1];rfl⟩;rw[jAl,jAl];have:([45]:Str).length=1:=rfl;omega
theorem JNa:∀l:List zra,(∀r∈l,okR r=true)->(q0a l).length<=200 * l.length
 | [],_=>jAn _
 | r::l,h=>by
  have h1:=JNa l fun x hx=>h x (by simp[hx])
  have h2:=(Wda (h r (by simp))).2;unfold q0a at h1 ⊢;rw[jDq];simp only[jAl,jAu];omega
theorem VGb(h:Ctx n nm m sz mx K):∀r∈rhoP nm m sz mx K,okR r=true:=by
 intro r hr;unfold rhoP repl at hr;rcases jCc.1 hr with hr | hr
 .rcases jBh.1 hr with rfl | hr
  .exact wab h
  rcases jBh.1 hr with rfl | hr
  .decide
  obtain ⟨i,_,rfl⟩:=jCd.1 hr;split <;> decide
 split at hr
 .cases hr
 rw[jBi.1 hr];decide
theorem cm_len(h:Ctx n nm m sz mx K):∀j,j<=m.Envelope.To.length->(AB n m (j+2)).length<=240 * j+300
 | 0,_=>by
  have h1:=Qxa (qqb h);have hal:m.Envelope.From.length<=121:=by
   rcases h.good.frm with e | e
   .rw[e];simp
   exact Z8a e
  have h7:=yGa 6 (zia m.Message).length (by have:=h.good.big;omega);have h6:=h.n6;have e1:(cmdT (Jja n)).length=6+n.length:=by simp[cmdT,ZJa,argT,Jja,yWa,Kua];omega
  have e2:(cmdT (Yia m.Envelope.From (zia m.Message).length)).length<=20+m.Envelope.From.length+7:=by
   have ea:argT (Yia m.Envelope.From (zia m.Message).length)=([60]++m.Envelope.From++ [62])::(if ((zia m.Message).length:Int)=0 then [] else [[115,105,122,101,61]++Lib.decDigits ((zia m.Message).length:Int).toNat]):=rfl;unfold cmdT ZJa;rw[ea];split
   .simp[Yia,yWa,Kua]
   simp[Yia,yWa,Kua];omega
  rw[AB_2,AB_1];simp only[jAl,jAu,jBw];omega
 | j+1,hj=>by
  have ih:=cm_len h j (by omega);have ht:=h.good.tos _ (jDj (show j < m.Envelope.To.length by omega));rw[AB_r (by omega)];have ha:=Z8a ht.1;have hc:=VYa (note_in ht.2);have e2:(cmdT (Voa m.Envelope.To[j])).length<=15+m.Envelope.To[j].Address.length+(KUa m.Envelope.To[j].Notify).length:=by
   have ea:argT (Voa m.Envelope.To[j])=([60]++m.Envelope.To[j].Address++ [62])::(if m.Envelope.To[j].Notify=1 then [] else [[110,111,116,105,102,121,61]++KUa m.Envelope.To[j].Notify]):=rfl;unfold cmdT ZJa;rw[ea];split
   .simp[Voa,yWa,Kua];omega
   simp[Voa,yWa,Kua];omega
  simp only[jAl,jAu,jBw];omega
theorem VHb(h:Ctx n nm m sz mx K):(AB n m (m.Envelope.To.length+3)++V8a m++K2a).length<=40000:=by
 have h1:=cm_len h _ (jAn _);have h2:=h.good.many;have h3:=h.good.big;have h4:=Jma m.Message h3;have h5:K2a.length=6:=by decide
 have h6:=Qxa (Qwa (n:=(zia m.Message).length) (by omega));have h7:(cmdT Jia).length=4:=by decide
 rw[AB_l];unfold V8a;split
 .simp only[jAl,jAu,jBw];omega
 simp only[jAl,jAu,jBw];omega
end
end
section
structure Fx (c0:zna) (s0:zsa) (g D U:List UInt8):Prop where
 out:(zXa c0 D).Out=U
 rep:g++q0a (zRa ⟨s0,[],[]⟩ U).replies=D
 dl:D.length<=40000
 ul:U.length<=40000
 ok:∀r∈(zRa ⟨s0,[],[]⟩ U).replies,okR r=true
theorem qsb{α:Type}{a b:List α}(h:a <+:b)(h2:b <+:a):a=b:=h.eq_of_length (Nat.le_antisymm h.length_le h2.length_le)
theorem z7b{a b:List zra}(h:a <+:b):q0a a <+:q0a b:=by
 obtain ⟨x,rfl⟩:=h;rw[wwa];exact jCt _ _
section
variable {c0:zna} {s0:zsa}
theorem YMa(o:QOa c0){a b:List UInt8}(h:a <+:b):(zXa c0 a).Out <+:(zXa c0 b).Out:=by
 obtain ⟨x,rfl⟩:=h;rw[jpa o];exact jCt _ _
theorem Wea{a b:List UInt8}(h:a <+:b):(zRa ⟨s0,[],[]⟩ a).replies <+:(zRa ⟨s0,[],[]⟩ b).replies/\(zRa ⟨s0,[],[]⟩ a).mails <+:(zRa ⟨s0,[],[]⟩ b).mails:=by
 obtain ⟨x,rfl⟩:=h;rw[JKa];exact ⟨jCt _ _,jCt _ _⟩
end
def finR(c:zna):List Int:=if c.Done=true then c.Results else KXa c.Results (bif c.Whole then 4 else 2)
theorem s00e(nm:Str)(sz mx:Int):(⟨sv nm sz mx false false [] [],[],[]⟩:Ses)=s00 nm sz mx:=rfl
section
variable {n nm:Str} {m:zua} {p:Bool} {sz mx:Int} {K:Nat}
theorem Q7a(h:Ctx n nm m sz mx K):QOa (kFa n m p):=start_ok (by
 unfold qRa;rw[h.hn,if_neg (by decide)];exact h.mail) (by have:=h.n6;omega) h.env h.msg
theorem yvb{a b:List UInt8}(h:a <+:b):(zRa (s00 nm sz mx) a).replies <+:(zRa (s00 nm sz mx) b).replies/\(zRa (s00 nm sz mx) a).mails <+:(zRa (s00 nm sz mx) b).mails:=Wea h
def l0(nm:Str)(m:zua)(sz mx:Int)(K:Nat):List zra:=rG nm::repl nm sz mx K m.Envelope.To.length
theorem l0_at(h:Ctx n nm m sz mx K):∀i r,(l0 nm m sz mx K)[i]? =some r->i<=m.Envelope.To.length+2->ROk r/\iQuo r.Code 100=if i < K+3 then 2 else 4:=by
 intro i r hi _;have hk:=h.k;have hok:okR r=true:=by
  rcases jBh.1 (jAi hi) with rfl | hm
  .exact okR_G h
  exact VGb h r (List.mem_append_left _ hm)
 refine ⟨(Wda hok).1,?_⟩
 match i,hi with
 | 0,hi=>cases hi;rw[if_pos (by omega)];rfl
 | 1,hi=>cases hi;rw[if_pos (by omega)];rfl
 | 2,hi=>cases hi;rw[if_pos (by omega)];rfl
 | j+3,hi=>
  have h2:((List.range m.Envelope.To.length).map fun i=>if i < K then rOk else rMany)[j]? =some r:=hi;rw[jAk]at h2;obtain ⟨x,hx,rfl⟩:=jAg.1 h2;have:=(jAd.1 hx).2;rw[List.getElem_range]at this;subst this;by_cases hj:j < K
  .rw[if_pos hj,if_pos (by omega)];rfl
  rw[if_neg hj,if_neg (by omega)];rfl
theorem ywb(h:Ctx n nm m sz mx K){e:Nat}(he:e<=m.Envelope.To.length+3):zXa (kFa n m p) (q0a ((l0 nm m sz mx K).take e))=stT n m p K e:=
 QWb (Q7a h) h.good.many.1 h.k.1 _ (l0_at h) e he (by unfold l0;rw[jAu,YLa];omega)
theorem l0_all(h:Ctx n nm m sz mx K):zXa (kFa n m p) (q0a (l0 nm m sz mx K))=stT n m p K (m.Envelope.To.length+3):=by
 have:=ywb (p:=p) h (jAn _)
 rwa [jCm (by unfold l0;rw[jAu,YLa];omega)]at this
def D1(nm:Str)(m:zua)(sz mx:Int)(K:Nat):List UInt8:=repB (rG nm)++q0a (rhoP nm m sz mx K)
theorem D1_l0:D1 nm m sz mx K=q0a (l0 nm m sz mx K)++q0a (if rawP m.Message=true then [] else [rGo]):=by
 unfold D1 rhoP l0;rw[wwa,<-jAx];rfl
theorem c_D1(h:Ctx n nm m sz mx K):zXa (kFa n m p) (D1 nm m sz mx K)=stF n m p K:=by
 rw[D1_l0];cases hr:rawP m.Message with
 | true=>rw[if_pos rfl,show q0a []=[] from rfl,jBj,l0_all h,st_raw hr]
 | false=>rw[if_neg (by decide),yYa,V6a (Q7a h) (l0_all h) rfl rfl (Wda (r:=rGo) (by decide)).1,st_data h.good.many.1 h.k.1 hr rfl]
theorem c_D2(h:Ctx n nm m sz mx K):zXa (kFa n m p) (D1 nm m sz mx K++repB (rId nm))=stE n m p K:=by
 rw[V6a (Q7a h) (c_D1 h) rfl rfl (Wda (okR_Id h)).1,st_last h.good.many.1 rfl]
theorem qtb(h:Ctx n nm m sz mx K)(hb:((zia m.Message).length:Int)<=sz):Fx (kFa n m p) (sv nm sz mx false false [] []) (repB (rG nm)) (D1 nm m sz mx K++repB (rId nm)++repB rBye) (AB n m (m.Envelope.To.length+3)++V8a m++K2a)/\
 (zRa (s00 nm sz mx) (AB n m (m.Envelope.To.length+3)++V8a m++K2a)).mails=[gotM nm m K]:=by
 obtain ⟨U,c,hU,_,_,h3⟩:=VEb h hb;rw[<-hU]at h3;have hR:(zRa (s00 nm sz mx) (AB n m (m.Envelope.To.length+3)++V8a m++K2a)).replies=rhoP nm m sz mx K++ [rId nm]++ [rBye]/\(zRa (s00 nm sz mx) (AB n m (m.Envelope.To.length+3)++V8a m++K2a)).mails=[gotM nm m K]:=by
  rw[qGa,h3];exact v9b ⟨ev nm sz mx,_,_⟩ rfl rfl
 have hok:∀r∈rhoP nm m sz mx K++ [rId nm]++ [rBye],okR r=true:=by
  intro r hr;rcases jCc.1 hr with hr | hr
  .rcases jCc.1 hr with hr | hr
   .exact VGb h r hr
   rw[jBi.1 hr];exact okR_Id h
  rw[jBi.1 hr];decide
 have hD:repB (rG nm)++q0a (rhoP nm m sz mx K++ [rId nm]++ [rBye])=D1 nm m sz mx K++repB (rId nm)++repB rBye:=by
  rw[wwa,wwa,yYa,yYa,<-jAx,<-jAx];rfl
 refine ⟨⟨?_,?_,?_,VHb h,?_⟩,hR.2⟩
 .rw[Jxa (Q7a h) (c_D2 h) rfl rfl];rfl
 .rw[s00e nm sz mx,hR.1,hD]
 .have h1:=JNa _ hok;have h2:=(Wda (okR_G h)).2;have h3:=h.good.many;have h4:(rhoP nm m sz mx K).length<=m.Envelope.To.length+3:=by
   unfold rhoP;rw[jAl,YLa];split <;> simp
  rw[<-hD,jAl];simp only[jAl,List.length_singleton]at h1;omega
 rw[s00e nm sz mx,hR.1];exact hok
theorem c_bad(h:Ctx n nm m sz mx K):zXa (kFa n m p) (q0a [rG nm,jRa nm sz mx,ZRa])=stX n m p:=by
 have h2:=ywb (p:=p) h (e:=2) (by omega);have e:(l0 nm m sz mx K).take 2=[rG nm,jRa nm sz mx]:=rfl;rw[e]at h2;rw[show [rG nm,jRa nm sz mx,ZRa]=[rG nm,jRa nm sz mx]++ [ZRa] from rfl,wwa,yYa,V6a (Q7a h) h2 rfl rfl (Wda (r:=ZRa) (by decide)).1,st_fail rfl h.good.many.1]
theorem fx_bad(h:Ctx n nm m sz mx K)(hb:sz < ((zia m.Message).length:Int)):∃D,Fx (kFa n m p) (sv nm sz mx false false [] []) (repB (rG nm)) D (AB n m (jj p m.Envelope.To.length 2)++K2a)/\zXa (kFa n m p) D=stX n m p/\
 (zRa (s00 nm sz mx) (AB n m (jj p m.Envelope.To.length 2)++K2a)).mails=[]:=by
 obtain ⟨k,hk,hf⟩:∃k,k<=61/\zRa (s00 nm sz mx) (AB n m (jj p m.Envelope.To.length 2))=⟨sv nm sz mx true false [] [],jRa nm sz mx::ZRa::List.replicate k K6a,[]⟩:=by
  have hm:=h.good.many;unfold jj;split
  .exact ⟨_,by omega,sx_last h hb⟩
  exact ⟨0,by omega,sx_AB h hb 0 (by omega)⟩
 have hR:(zRa (s00 nm sz mx) (AB n m (jj p m.Envelope.To.length 2)++K2a)).replies=(jRa nm sz mx::ZRa::List.replicate k K6a)++ [rBye]/\(zRa (s00 nm sz mx) (AB n m (jj p m.Envelope.To.length 2)++K2a)).mails=[]:=by
  rw[qGa,hf];exact v9b ⟨sv nm sz mx true false [] [],_,_⟩ rfl rfl
 have hok:∀r∈(jRa nm sz mx::ZRa::List.replicate k K6a)++ [rBye],okR r=true:=by
  intro r hr;rcases jCc.1 hr with hr | hr
  .rcases jBh.1 hr with rfl | hr
   .exact wab h
   rcases jBh.1 hr with rfl | hr
   .decide
   rw[List.eq_of_mem_replicate hr];decide
  rw[jBi.1 hr];decide
 have e1:repB (rG nm)++q0a ((jRa nm sz mx::ZRa::List.replicate k K6a)++ [rBye])=q0a [rG nm,jRa nm sz mx,ZRa]++q0a (List.replicate k K6a++ [rBye]):=by
  rw[<-wwa,<-yYa,<-wwa];rfl
 have hc:zXa (kFa n m p) (repB (rG nm)++q0a ((jRa nm sz mx::ZRa::List.replicate k K6a)++ [rBye]))=stX n m p:=by
  rw[e1,Jxa (Q7a h) (c_bad h) rfl rfl]
 refine ⟨_,⟨?_,rfl,?_,?_,?_⟩,?_,hR.2⟩
 .rw[s00e nm sz mx,hR.1,hc];rfl
 .have h1:=JNa _ hok;have h2:=(Wda (okR_G h)).2;rw[s00e nm sz mx,hR.1,jAl];simp only[jAl,jAu,List.length_replicate,jBw]at h1;simp only[jBu]at h1 ⊢;omega
 .have hl:=(AB_le n m (show jj p m.Envelope.To.length 2<=m.Envelope.To.length+3 by unfold jj;split <;> omega)).length_le;have:=VHb h;simp only[jAl]at this ⊢;omega
 .rw[s00e nm sz mx,hR.1];exact hok
 rw[s00e nm sz mx,hR.1];exact hc
theorem len_res(h:Ctx n nm m sz mx K){d:List UInt8}(hl:d.length<=40000):(zXa (kFa n m p) d).C.Results.length=m.Envelope.To.length/\(finR (zXa (kFa n m p) d).C).length=m.Envelope.To.length:=by
 obtain ⟨ok,_⟩:=Jwa (Q7a (p:=p) h) (d:=d) (by show 0+_<=_;omega);have hm:(zXa (kFa n m p) d).C.Mail=m:=by
  have o:=Q7a (p:=p) h;unfold zXa;rw[if_neg (show ¬(kFa n m p).Done=true from Bool.false_ne_true)];exact (Jva _ [] ⟨kFa n m p,[]⟩ o.inv (o.opn rfl) rfl).same.2.1
 have h1:=ok.inv.len;rw[hm]at h1;refine ⟨h1,?_⟩;unfold finR;split
 .exact h1
 rw[vvb,h1]
theorem sv_take(h:Ctx n nm m sz mx K)(hb:((zia m.Message).length:Int)<=sz):∀e,e<=m.Envelope.To.length+2->(zRa (s00 nm sz mx) (AB n m e)).replies=(repl nm sz mx K m.Envelope.To.length).take e
 | 0,_=>by rw[List.take_zero,show AB n m 0=[] from rfl,QDa];rfl
 | 1,_=>by rw[sv_1 h];unfold repl;rw[List.take_succ_cons,List.take_zero]
 | j+2,he=>by
  rw[sv_AB h hb j (by omega)];unfold repl;rw[List.take_succ_cons,List.take_succ_cons,<-List.map_take,List.take_range,Nat.min_eq_left (by omega)]
theorem l0_succ(nm:Str)(m:zua)(sz mx:Int)(K e:Nat):q0a ((l0 nm m sz mx K).take (e+1))=repB (rG nm)++q0a ((repl nm sz mx K m.Envelope.To.length).take e):=by
 unfold l0 q0a;rw[List.take_succ_cons,jDq]
theorem ZZb(h:Ctx n nm m sz mx K)(hb:((zia m.Message).length:Int)<=sz){d u:List UInt8}(hd:d <+:D1 nm m sz mx K++repB (rId nm)++repB rBye)(hu:u <+:AB n m (m.Envelope.To.length+3)++V8a m++K2a)
 (hdu:d=repB (rG nm)++q0a (zRa (s00 nm sz mx) u).replies) (hud:u=(zXa (kFa n m p) d).Out):
 (zRa (s00 nm sz mx) u).mails=[gotM nm m K]/\finR (zXa (kFa n m p) d).C=KXa (resL K m.Envelope.To.length (m.Envelope.To.length+3)) 1:=by
 obtain ⟨hx,hmU⟩:=qtb (p:=p) h hb;obtain ⟨U,c,hU,s1,s2,s3⟩:=VEb h hb;have o:=Q7a (p:=p) h;have rm:∀{a:List UInt8},a <+:u->repB (rG nm)++q0a (zRa (s00 nm sz mx) a).replies <+:d:=fun {a} ha=>by
  rw[hdu];exact List.prefix_append_right_inj _ |>.2 (z7b (yvb (nm:=nm) (sz:=sz) (mx:=mx) ha).1)
 have hj:∀e,e<=m.Envelope.To.length+3->e<=jj p m.Envelope.To.length e:=fun e he=>by unfold jj;split <;> omega
 have om:∀e,e<=m.Envelope.To.length+3->q0a ((l0 nm m sz mx K).take e) <+:d->AB n m e <+:u:=fun e he h1=>by
  have:=YMa o h1;rw[ywb h he,<-hud]at this;exact (AB_le n m (hj e he)).trans this
 have chain:∀e,e<=m.Envelope.To.length+3->q0a ((l0 nm m sz mx K).take e) <+:d:=by
  intro e;induction e with
  | zero=>intro _;exact List.nil_prefix
  | succ e ih=>
   intro he;have h1:=rm (om e (by omega) (ih (by omega)));rw[sv_take h hb e (by omega),<-l0_succ]at h1;exact h1
 have h3:=chain _ (jAn _);have hUu:U++ [c] <+:u:=by
  rw[<-hU];have ho:∀{x:List UInt8},x <+:d->zXa (kFa n m p) x=stF n m p K->AB n m (m.Envelope.To.length+3)++V8a m <+:u:=fun {x} hx1 hx2=>by
   have:=YMa o hx1;rw[hx2,<-hud]at this;exact this
  refine ho (x:=D1 nm m sz mx K) ?_ (c_D1 h);rw[jCm (by unfold l0;rw[jAu,YLa];omega)]at h3;rw[D1_l0];cases hr:rawP m.Message with
  | true=>rw[if_pos rfl,show q0a []=[] from rfl,jBj];exact h3
  | false=>
   have h4:=rm (om _ (jAn _) (chain _ (jAn _)));rw[sv_data h hb hr]at h4;have e3:=D1_l0 (nm:=nm) (m:=m) (sz:=sz) (mx:=mx) (K:=K);rw[hr]at e3;rw[<-e3];exact h4
 have h5:=rm hUu;rw[s3,wwa,yYa,<-jAx]at h5;have h6:D1 nm m sz mx K++repB (rId nm) <+:d:=h5;have hcd:zXa (kFa n m p) d=stE n m p K:=by
  obtain ⟨z,rfl⟩:=h6;exact Jxa o (c_D2 h) rfl rfl z
 refine ⟨?_,by rw[hcd];rfl⟩;have r1:=(yvb (nm:=nm) (sz:=sz) (mx:=mx) hUu).2;have r2:=(yvb (nm:=nm) (sz:=sz) (mx:=mx) hu).2;rw[s3]at r1;rw[hmU]at r2;exact (qsb r1 r2).symm
end
end
def kNa(v7:(List Str) × zqa)(s9:Int × zma):Option (Step (Int × zma) zma):=
 (bif decide (s9.1 < (v7.1.length:Int)) then (idx v7.1 s9.1).bind fun v13=>(app 140737488355328 s9.2.down v13).bind fun v15=>(app 140737488355328 v15 (([(13:UInt8),(10:UInt8)]:List UInt8))).bind fun v17=>some (.cont ((w64 (s9.1+1)),(zma.mk s9.2.client s9.2.server v17 s9.2.up s9.2.mails))) else some (.out s9.2))
noncomputable def qna(a1:List zra)(s1:Int × zma):Option (Step (Int × zma) zma):=
 (bif decide (s1.1 < (a1.length:Int)) then (idx a1 s1.1).bind fun v5=>(yya v5).bind fun v7=>(iter (kNa v7) ((0,s1.2))).bind fun b10=>some (.cont ((w64 (s1.1+1)),b10)) else some (.out s1.2))
noncomputable def qva(a0:zma)(a1:List zra):Option zma:=
 (iter (qna a1) ((0,a0))).bind fun b2=>some b2
noncomputable def voa(a0:zma)(a1:Int):Option (Int × zma):=
 (bif decide (0 < (a0.down.length:Int)) then ((bif decide (0<=a1) then some ((min ((a0.down.length:Int)) a1)) else some ((a0.down.length:Int))):Option Int).bind fun (j2:Int)=>(cut a0.down 0 j2).bind fun v4=>(jCa a0.client v4).bind fun v6=>(cut a0.down j2 (a0.down.length:Int)).bind fun v8=>(app 140737488355328 a0.up v6.2.1).bind fun v10=>some ((j2,(zma.mk v6.1 a0.server v8 v10 a0.mails))) else ((bif decide (0<=a1) then some ((min ((a0.up.length:Int)) a1)) else some ((a0.up.length:Int))):Option Int).bind fun (j12:Int)=>(cut a0.up 0 j12).bind fun v14=>(jOa a0.server v14).bind fun v16=>(cut a0.up j12 (a0.up.length:Int)).bind fun v18=>(app 1353245080339 a0.mails v16.2.2.1).bind fun v20=>(qva ((zma.mk a0.client v16.1 a0.down v18 v20)) v16.2.1).bind fun v22=>some ((j12,v22)))
def qOa(a5:List Int)(s15:Int):Option (Step Int (Unit ⊕ Int)):=
 (bif decide (s15 < (a5.length:Int)) then (idx a5 s15).bind fun v21=>((bif decide (v21 < 1) then some true else some (decide (40000 < v21))):Option Bool).bind fun (j23:Bool)=>(bif j23 then some (.out (.inr s15)) else some (.cont (w64 (s15+1)))) else some (.out (.inl (()))))
noncomputable def kya(a5:List Int)(s36:Int × Int × zma):Option (Step (Int × Int × zma) zma):=
 ((bif decide (0 < (w64 ((s36.2.2.down.length:Int)+(s36.2.2.up.length:Int)))) then some ((s36.2.1 !=0)) else some false):Option Bool).bind fun (j39:Bool)=>(bif j39 then (((bif decide (0 < (a5.length:Int)) then (nz ((a5.length:Int))).bind fun v45=>(idx a5 ((iRem s36.1 ((a5.length:Int))))).bind fun v47=>some v47 else some ((-1))):Option Int).bind fun (j43:Int)=>(((bif decide (0 < s36.2.1) then (bif decide (j43 < 0) then some true else some (decide (s36.2.1 < j43))) else some false):Option Bool).bind fun (j50:Bool)=>(bif j50 then some s36.2.1 else some j43):Option Int).bind fun (j49:Int)=>(voa s36.2.2 j49).bind fun v54=>(bif decide (0 < s36.2.1) then some (((w64 (s36.2.1 - v54.1)),v54.2)) else some ((s36.2.1,v54.2))):Option (Int × zma)).bind fun (j42:Int × zma)=>some (.cont ((w64 (s36.1+1)),j42.1,j42.2)) else some (.out s36.2.2))
noncomputable def z5a(a0:zua)(a1:Str)(a2:Int)(a3:Int)(a4:Bool)(a5:List Int)(a6:Int):Option ((List zua) × (List Int) × zqa):=
 (ySa (([99,108,105,101,110,116]:Str)) a0 a4).bind fun v1=>(zDa v1.2).bind fun v3=>(bif v3 then some (([],[],v1.2)) else (ZNa a1 a2 a3).bind fun v6=>(zDa v6.2.2).bind fun v8=>(bif v8 then some (([],[],v6.2.2)) else (bif decide (300 < (a5.length:Int)) then (zka 2 ((-25))).bind fun v12=>some (([],[],v12)) else ((iter (qOa a5) 0).bind (Sum.elim (fun b16=>some ((-1))) (fun b17=>some b17)):Option Int).bind fun (j14:Int)=>(bif decide (0<=j14) then (zka 3 ((-25))).bind fun v27=>some (([],[],v27)) else ((bif decide (a6 < (-1)) then some true else some (decide (1000000 < a6))):Option Bool).bind fun (j29:Bool)=>(bif j29 then (zka 3 ((-26))).bind fun v32=>some (([],[],v32)) else (qva ((zma.mk v1.1 v6.1 (([]:List UInt8)) (([]:List UInt8)) (([]:List zua)))) (([v6.2.1]:List zra))).bind fun v34=>(iter (kya a5) ((0,a6,v34))).bind fun b37=>((bif (!b37.client.Done) then (yTa b37.client).bind fun v59=>some ((zma.mk v59.1 b37.server b37.down b37.up b37.mails)) else some b37):Option zma).bind fun (j57:zma)=>(zHa).bind fun v61=>some ((j57.mails,j57.client.Results,v61)))))))
noncomputable def wRa:Option Bool:=
 (Z6a (([([97,64,121]:Str)]:List Str))).bind fun v1=>(z5a v1 (([109,120]:Str)) 1000 10 true ([]) ((-1))).bind fun v3=>(Z6a (([([97,64,121]:Str)]:List Str))).bind fun v5=>(z5a v5 (([109,120]:Str)) 1000 10 false (([1]:List Int)) 0).bind fun v7=>(Z6a (([([97,64,121]:Str)]:List Str))).bind fun v9=>(z5a v9 (([109,120]:Str)) 1000 10 false (([0]:List Int)) 0).bind fun v11=>((bif (v3.2.2.Code==0) then (bif (v7.2.2.Code==0) then (R_At 3 ((-25))).bind fun v16=>(bif (wna [(v11.2.2.Code==v16.Code),(v11.2.2.Index==v16.Index)]) then (bif ((v3.1.length:Int)==1) then (Y2a v3.2.1 (([1]:List Int))).bind fun v20=>(bif v20 then (bif ((v7.1.length:Int)==0) then (Y2a v7.2.1 (([2]:List Int))).bind fun v24=>some v24 else some false) else some false) else some false) else some false) else some false) else some false):Option Bool).bind fun (j13:Bool)=>some j13
noncomputable def qKa(a0:zua)(a1:Int)(a2:Int)(a3:Bool)(a4:List Int):Option Bool:=
 (z5a a0 (([109,120]:Str)) a1 a2 a3 a4 ((-1))).bind fun v1=>(z5a a0 (([109,120]:Str)) a1 a2 a3 ([]) ((-1))).bind fun v3=>((wRa).bind fun v6=>(bif (!v6) then some true else some ((v1.2.2.Code !=0))):Option Bool).bind fun (j5:Bool)=>(bif j5 then ((wRa).bind fun v11=>(bif v11 then some (((v1.1.length:Int)==0)) else some false):Option Bool).bind fun (j10:Bool)=>some j10 else ((bif (v3.2.2.Code==0) then (jya v1.1 v3.1).bind fun v16=>(bif v16 then (Y2a v1.2.1 v3.2.1).bind fun v19=>some v19 else some false) else some false):Option Bool).bind fun (j14:Bool)=>some j14)
theorem aftS{γ:Type}{o:Option γ}{v:γ}(h:o=some v):(o.bind fun v=>some v)=some v:=by rw[h];rfl
theorem wbb(x:Ses){n:Nat}(h:SI {x with Server:={x.Server with Phase:=0}} n)(hn:n<=1000000):ksa x=some (yga x):=by
 have hd:x.Server.Dots=0:=h.dots (by show (0:Int)≠1;decide);have hr:x.replies.length<=n:=h.reps;unfold ksa yga;cases x.Server.Ignore with
 | true=>exact aftS (wQa ⟨{x.Server with Phase:=0,Last:=false,Ignore:=false},x.replies,x.mails⟩ 503 [zYb] (by show x.replies.length<=_;omega))
 | false=>
  cases x.Server.Last with
  | true=>exact aftS (jqb ⟨{x.Server with Phase:=0,Last:=false,Ignore:=false},x.replies,x.mails⟩ (vWb (x:=⟨{x.Server with Phase:=0},x.replies,x.mails⟩) h hd) hn)
  | false=>exact aftS (wQa ⟨{x.Server with Phase:=0,Last:=false,Ignore:=false},x.replies,x.mails⟩ 250 [okW] (by show x.replies.length<=_;omega))
theorem JOa{c:Int}(h:0<=c/\c<=1000000):zMa c=some (Lib.decDigits c.toNat):=by
 obtain ⟨k,rfl⟩:∃k:Nat,c=(k:Int):=⟨c.toNat,by omega⟩;rw[jEa _ (by omega),jCw]
theorem execP_eq(x:Ses){n:Nat}(h:SI x n)(hn:n<=1000000)(hp:x.Server.Phase=0){c:zfa}(ok:wTa c):k3a x c=some (yma x c):=by
 have hr:=h.reps;have hv:=ok.verb;have hname:=h.name;have hd:x.Server.Dots=0:=h.dots (by rw[hp];decide);unfold k3a yma;by_cases h1:c.Verb=1
 .rw[if_pos h1,h1];simp only[show ((1:Int)==1)=true from rfl,cond_true,ab_eq,jAc];have l1:=QCa (n:=x.Server.Size.toNat) (by have:=h.size;omega);have l2:=QCa (n:=x.Server.Many.toNat) (by have:=h.many;omega);rw[show (abS x).Server.Size=x.Server.Size from rfl,show (abS x).Server.Many=x.Server.Many from rfl,JOa (c:=x.Server.Size) (by have:=h.size;omega),JOa (c:=x.Server.Many) (by have:=h.many;omega)];simp only[jAc];rw[vfa (show ([115,105,122,101,32]:Str).length+_<=_ by simp;omega),vfa (show ([114,101,99,105,112,105,101,110,116,115,32]:Str).length+_<=_ by simp;omega)];exact aftS (wQa ⟨{(abS x).Server with Greeted:=true},x.replies,x.mails⟩ 250 _ (by show x.replies.length<=_;omega))
 rw[if_neg h1,beq_eq_false_iff_ne.2 h1];simp only[cond_false];by_cases h2:c.Verb=2
 .rw[if_pos h2,h2];simp only[show ((2:Int)==2)=true from rfl,cond_true];have e:(bif (!x.Server.Greeted) then some true else some x.Server.Mailing)=some (!x.Server.Greeted || x.Server.Mailing):=by cases x.Server.Greeted <;> rfl
  rw[e];simp only[jAc];cases !x.Server.Greeted || x.Server.Mailing with
  | true=>exact aftS (wQa x 503 _ (by omega))
  | false=>
   simp only[cond_false];by_cases hs:x.Server.Size < c.Size
   .rw[if_pos hs,decide_eq_true hs];exact aftS (wQa x 552 _ (by omega))
   rw[if_neg hs,decide_eq_false hs];exact aftS (wQa ⟨{x.Server with Mailing:=true,From:=c.Address},x.replies,x.mails⟩ 250 _ (by show x.replies.length<=_;omega))
 rw[if_neg h2,beq_eq_false_iff_ne.2 h2];simp only[cond_false];by_cases h3:c.Verb=3
 .rw[if_pos h3,h3];exact aftS (rcpt_eq x h hn ok h3)
 rw[if_neg h3,beq_eq_false_iff_ne.2 h3];simp only[cond_false];by_cases h4:c.Verb=4
 .rw[if_pos h4,h4];simp only[show ((4:Int)==4)=true from rfl,cond_true];have e:(bif ((x.Server.To.length:Int)==0) then some true else some x.Server.Chunked)=some (x.Server.To.isEmpty || x.Server.Chunked):=by rw[Wca];cases x.Server.To.isEmpty <;> rfl
  rw[e];simp only[jAc];cases x.Server.To.isEmpty || x.Server.Chunked with
  | true=>exact aftS (wQa x 503 _ (by omega))
  | false=>exact aftS (wQa ⟨{x.Server with Phase:=1},x.replies,x.mails⟩ 354 _ (by show x.replies.length<=_;omega))
 rw[if_neg h4,beq_eq_false_iff_ne.2 h4];simp only[cond_false];by_cases h5:c.Verb=5
 .rw[if_pos h5,h5];simp only[show ((5:Int)==5)=true from rfl,cond_true];rw[Wca];by_cases hz:c.Size=0
  .rw[if_pos hz,hz];simp only[show ((0:Int)==0)=true from rfl,cond_true];have e1:=wbb ⟨{x.Server with Phase:=2,Left:=c.Size,Last:=c.Last,Ignore:=x.Server.To.isEmpty,Chunked:= !x.Server.To.isEmpty},x.replies,x.mails⟩ (vYb h hd c) hn;rw[hz]at e1;exact aftS e1
  rw[if_neg hz,beq_eq_false_iff_ne.2 hz];rfl
 rw[if_neg h5,beq_eq_false_iff_ne.2 h5];simp only[cond_false];by_cases h6:c.Verb=6
 .rw[if_pos h6,h6];simp only[show ((6:Int)==6)=true from rfl,cond_true,ab_eq,jAc];exact aftS (wQa (abS x) 250 _ (by show x.replies.length<=_;omega))
 rw[if_neg h6,beq_eq_false_iff_ne.2 h6];simp only[cond_false];by_cases h8:c.Verb=8
 .rw[if_pos h8,h8];simp only[show ((8:Int)==7)=false from rfl,show ((8:Int)==8)=true from rfl,cond_true,cond_false];rw[wQa x 221 _ (by omega)];rfl
 rw[if_neg h8,beq_eq_false_iff_ne.2 h8];have h7:c.Verb=7:=by omega
 rw[h7];exact aftS (wQa x 250 _ (by omega))
theorem lineP_eq(x:Ses){n:Nat}(h:SI x n)(hn:n<=1000000)(hp:x.Server.Phase=0)(c:UInt8):qEa x c=some (JDa x c):=by
 have hr:=h.reps;have hb:=h.buf;have h0:=ynb h (b:=[]) (by simp);have hlen:(x.Server.Buffer++ [c]).length=x.Server.Buffer.length+1:=by simp
 unfold qEa JDa;rw[kRa (show x.Server.Buffer.length+ [c].length<=140737488355328 by simp;omega)];simp only[jAc];unfold vka;rw[Zda _ _ (by omega)];simp only[jAc];cases hs: [13,10].isSuffixOf (x.Server.Buffer++ [c]) with
 | true=>
  have hl2:=(jBk.1 hs).length_le;simp only[jAu,jBw]at hl2;have ecut:w64 (((x.Server.Buffer++ [c]).length:Int) - (([13,10]:List UInt8).length:Int))=(((x.Server.Buffer++ [c]).length - 2:Nat):Int):=by
   rw[show (((x.Server.Buffer++ [c]).length:Int) - (([13,10]:List UInt8).length:Int))=(((x.Server.Buffer++ [c]).length - 2:Nat):Int) by simp only[jAu,jBw];omega,wXb _ (by omega)]
  simp only[jBf,cond_false,if_true];rw[ecut,KNa (by omega)];simp only[jAc,jBf,cond_false];rw[Yla _ (by simp;omega)];simp only[jAc];generalize hR:ZPa ((x.Server.Buffer++ [c]).take ((x.Server.Buffer++ [c]).length - 2))=r;by_cases h18:r.2.Code=18
  .rw[if_pos h18,h18];exact aftS (wQa (bufS x []) 500 _ (by show x.replies.length<=_;omega))
  rw[if_neg h18];by_cases hz:r.2.Code=0
  .have ok:wTa r.1:=by rw[<-hR]at hz ⊢;exact JGa hz
   rw[if_pos hz,hz];exact aftS (execP_eq (bufS x []) h0 hn hp ok)
  rw[if_neg hz,beq_eq_false_iff_ne.2 hz,beq_eq_false_iff_ne.2 h18];exact aftS (wQa (bufS x []) 501 _ (by show x.replies.length<=_;omega))
 | false=>
  simp only[jDn,cond_true,cond_false,jAr,if_false,jAc];by_cases h4:(x.Server.Buffer++ [c]).length=4002
  .rw[if_pos h4,h4];simp only[show (((4002:Nat):Int)==4002)=true from rfl,cond_true];exact (congrArg (fun o=>(o.bind fun (v8:zda)=>(qma v8).bind fun v10=>some v10).bind fun j=>some j) (wQa (bufS x (x.Server.Buffer++ [c])) 500 [qdb] (by show x.replies.length<=_;omega))).trans rfl
  rw[if_neg h4,beq_eq_false_iff_ne.2 (show ((x.Server.Buffer++ [c]).length:Int)≠4002 by omega)];rfl
theorem dataP_eq(x:Ses){n:Nat}(h:SI x n)(hn:n<=1000000)(c:UInt8):qFa x c=some (Wba x c):=by
 unfold qFa Wba;rw[ZIa c 46 (by decide),ZIa c 13 (by decide),ZIa c 10 (by decide),K3a,K3a,K3a,deq,deq,deq,qgb,qgb,qgb];simp only[jAc];by_cases h0:x.Server.Dots=0/\c=46
 .rw[if_pos h0,decide_eq_true h0];rfl
 rw[if_neg h0,decide_eq_false h0];simp only[cond_false];by_cases h1:x.Server.Dots=1/\c=13
 .rw[if_pos h1,decide_eq_true h1];rfl
 rw[if_neg h1,decide_eq_false h1];simp only[cond_false];by_cases h2:x.Server.Dots=2/\c=10
 .rw[if_pos h2,decide_eq_true h2];exact aftS (jqb _ (jtb h) hn)
 rw[if_neg h2,decide_eq_false h2];simp only[cond_false];by_cases hd2:x.Server.Dots=2
 .rw[if_pos hd2,decide_eq_true hd2];simp only[cond_true];rw[Q6b x 13 h];simp only[jAc];rw[Q9b _ (Kca h 13) c,(vma x 13).1]
 rw[if_neg hd2,decide_eq_false hd2];simp only[cond_false,jAc];rw[Q9b x h c]
theorem stepP_eq(a1:List UInt8)(ha:a1.length<=1000000)(i:Nat)(c:UInt8)(x:Ses)(hc:a1[i]? =some c)(h:SI x i):q1a a1 ((i:Int),x)=some (.cont (((i+1:Nat):Int),v4a x c)):=by
 have hi:=kla hc;unfold q1a v4a;dsimp only;rw[qQa hc,kma hc];simp only[cond_true,jAc];rw[sc i (by omega)];by_cases h0:x.Server.Phase=0
 .rw[if_pos h0,h0,lineP_eq x h (by omega) h0 c];rfl
 rw[if_neg h0,beq_eq_false_iff_ne.2 h0];simp only[cond_false];by_cases h1:x.Server.Phase=1
 .rw[if_pos h1,h1,dataP_eq x h (by omega) c];rfl
 rw[if_neg h1,beq_eq_false_iff_ne.2 h1];simp only[cond_false];by_cases h2:x.Server.Phase=2
 .rw[if_pos h2,h2];simp only[show ((2:Int)==2)=true from rfl,cond_true];have e1:(bif !x.Server.Ignore then (kqa x c).bind fun v36=>some v36 else some x)=some (bif x.Server.Ignore then x else z2a x c):=by
   rw[Q6b x c h];cases x.Server.Ignore <;> rfl
  rw[e1];simp only[jAc];have hy:SI (bif x.Server.Ignore then x else z2a x c) i/\(bif x.Server.Ignore then x else z2a x c).Server.Phase=2:=by
   cases x.Server.Ignore with
   | true=>exact ⟨h,h2⟩
   | false=>exact ⟨Kca h c,by rw[show (bif false then x else z2a x c)=z2a x c from rfl,(vma x c).2];exact h2⟩
  generalize (bif x.Server.Ignore then x else z2a x c)=y at hy;obtain ⟨hy,hyp⟩:=hy;obtain ⟨q1,q2⟩:=jub hy hyp;have hl:=hy.left hyp;rw[qwa (n:=y.Server.Left - 1) (by omega) (by omega)];by_cases hz:y.Server.Left - 1=0
  .rw[if_pos hz,show (y.Server.Left - 1==0)=true by rw[hz];rfl];exact (congrArg (fun (o:Option zda)=>(o.bind fun v39=>some v39).bind fun (j24:zda)=>(some (Step.cont (((i+1:Nat):Int),j24)):Option (Step (Int × zda) zda))) (wbb (yob y) q1 (by omega))).trans rfl
  rw[if_neg hz,beq_eq_false_iff_ne.2 hz];rfl
 rw[if_neg h2,beq_eq_false_iff_ne.2 h2];rfl
theorem WOa(a1:List UInt8)(ha:a1.length<=1000000)(x:Ses)(h:SI x 0):iter (q1a a1) ((0,x))=some (zRa x a1)/\SI (zRa x a1) a1.length:=
 KOa a1 (fun i (s:Ses)=>(i,s)) v4a id (fun i s=>SI s i) (body:=q1a a1) (fun s _=>by unfold q1a;rw[kLa];rfl) (fun i c s hc hs=>⟨stepP_eq a1 ha i c s hc hs,jvb hs c⟩) x h
theorem FeedP_eq(s:zsa)(b:List UInt8)(h:jxb s)(hc:srvF s=⟨0,0⟩)(hb:b.length<=40000):jOa s b=some ((zRa ⟨s,[],[]⟩ b).Server,(zRa ⟨s,[],[]⟩ b).replies,(zRa ⟨s,[],[]⟩ b).mails,⟨0,0⟩):=by
 obtain ⟨h1,h2,_⟩:=qhb (s:=s) (by rw[hc]);unfold jOa;rw[Vbb _ _ _ h.name];simp only[jAc,zBa];rw[h1,Vfb s h,h2];simp only[show ((0:Int) !=0)=false from rfl,cond_false,jAc,jBf];rw[decide_eq_false (by omega)];simp only[cond_false];rw[JEa _ h.tos.1,JFa _ h.buf,JFa _ h.data];simp only[jAc];rw[show (⟨⟨s.Name,s.Size,s.Many,s.Phase,s.Greeted,s.Mailing,s.From,s.To,s.Buffer,s.Data,s.Lost,s.Dots,s.Chunked,s.Left,s.Last,s.Ignore,s.Count⟩,([]:List zra),([]:List zua)⟩:Ses)=⟨s,[],[]⟩ from rfl,(WOa b (by omega) _ (jzb (s:=s) (by rw[hc]))).1];rfl
theorem VIb(n:Str)(a b:Int)(h:n.length<=1048576):ZNa n a b=some (newF n a b):=by
 unfold ZNa newF;rw[Vbb _ _ _ h];simp only[jAc,zBa];by_cases hc:(jQa n a b).Code=0
 .rw[if_neg (by simp[hc]),hc,(JHa hc).1];rfl
 rw[if_pos hc,bne_iff_ne.2 hc];rfl
section
theorem print_ok{r:zra}(h:okR r=true):yya r=some (prn (dig3 r.Code.toNat) r.Lines,⟨0,0⟩):=by
 have ok:=(Wda h).1;rw[zbb r (rOk_sm ok),vqb ok,if_neg (by decide)]
def dwn(x:zma)(b:List UInt8):zma:=⟨x.client,x.server,b,x.up,x.mails⟩
theorem VJb(v:List Str × zqa)(x:zma)(hn:v.1.length<=1000)(hl:∀s∈v.1,s.length<=1000)(hd:x.down.length<=1000000000):iter (kNa v) (0,x)=some (dwn x (x.down++zIa v.1)):=by
 obtain ⟨h1,_⟩:=KOa v.1 (fun j (s:zma)=>(j,s)) (fun s r=>dwn s (s.down++r++ [13,10])) id (fun j s=>s.down.length<=1000000000+1002 * j) (body:=kNa v) (fun s _=>by unfold kNa;rw[kLa];rfl) (fun j r s hr hs=>by
  have hj:=kla hr;have hm:=hl r (jAi hr);refine ⟨?_,by simp only[dwn,jAl,jAu,jBw];omega⟩;unfold kNa;dsimp only;rw[qQa hr,kma hr];simp only[cond_true,jAc];rw[kRa (by omega)];simp only[jAc];rw[kRa (by simp;omega)];simp only[jAc];rw[sc j (by omega)];rfl) x (by omega)
 have key:∀(l:List Str) (s:zma),l.foldl (fun s r=>dwn s (s.down++r++ [13,10])) s=dwn s (s.down++zIa l):=by
  intro l;induction l with
  | nil=>intro s;rw[vrb,jBj];rfl
  | cons r l ih=>intro s;rw[jDv,ih,ZMa];simp[dwn]
 rw[key]at h1;exact h1
theorem z8b(x:zma)(l:List zra)(ho:∀r∈l,okR r=true)(hn:l.length<=100000)(hd:x.down.length<=100000):qva x l=some (dwn x (x.down++q0a l)):=by
 obtain ⟨h1,_⟩:=KOa l (fun j (s:zma)=>(j,s)) (fun s r=>dwn s (s.down++repB r)) id (fun j s=>s.down.length<=100000+200 * j) (body:=qna l) (fun s _=>by unfold qna;rw[kLa];rfl) (fun j r s hr hs=>by
  have hj:=kla hr;have hm:=ho r (jAi hr);obtain ⟨ok,hb⟩:=Wda hm;refine ⟨?_,by simp only[dwn,jAl];omega⟩;have h4:∀s∈prn (dig3 r.Code.toNat) r.Lines,s.length<=504:=by
   obtain ⟨⟨u,hu,h1,h2⟩,_,hx⟩:=ok;exact QUb (u:=r.Code.toNat) r.Lines fun s hs=>(hx s hs).1
  unfold qna;dsimp only;rw[qQa hr,kma hr];simp only[cond_true,jAc];rw[print_ok hm];simp only[jAc];rw[VJb _ s (by rw[yab];have:=ok.len;omega) (fun s hs=>by have:=h4 s hs;omega) (by omega)];simp only[jAc];rw[sc j (by omega)];rfl) x (by omega)
 have key:∀(l:List zra) (s:zma),l.foldl (fun s r=>dwn s (s.down++repB r)) s=dwn s (s.down++q0a l):=by
  intro l;induction l with
  | nil=>intro s;rw[show q0a []=[] from rfl,jBj];rfl
  | cons r l ih=>intro s;rw[jDv,ih];simp[dwn,q0a]
 rw[key]at h1;unfold qva;rw[h1];rfl
structure Hist (c0:zna) (s0:zsa) (g:List UInt8) (x:zma) (d u:List UInt8):Prop where
 cl:x.client=(zXa c0 d).C
 sv:x.server=(zRa ⟨s0,[],[]⟩ u).Server
 dn:d++x.down=g++q0a (zRa ⟨s0,[],[]⟩ u).replies
 up:u++x.up=(zXa c0 d).Out
 ml:x.mails=(zRa ⟨s0,[],[]⟩ u).mails
 le:∀D U,Fx c0 s0 g D U->d <+:D/\u <+:U
section
variable {c0:zna} {s0:zsa} {g:List UInt8} {x:zma} {d u D U:List UInt8}
theorem Hist.all(o:QOa c0)(h:Hist c0 s0 g x d u)(fx:Fx c0 s0 g D U):d++x.down <+:D/\u++x.up <+:U:=by
 obtain ⟨h1,h2⟩:=h.le D U fx;constructor
 .rw[h.dn,<-fx.rep];exact List.prefix_append_right_inj _ |>.2 (z7b (Wea h2).1)
 rw[h.up,<-fx.out];exact YMa o h1
def wcb(k:Int)(n:Nat):Nat:=if k < 0 then n else min n k.toNat
theorem jMb(k:Int)(n:Nat):((bif decide (0<=k) then some (min (n:Int) k) else some (n:Int)):Option Int)=some ((wcb k n:Nat):Int):=by
 unfold wcb;by_cases h:k < 0
 .rw[if_pos h,decide_eq_false (by omega)];rfl
 rw[if_neg h,decide_eq_true (by omega)];simp only[cond_true,Option.some.injEq];omega
theorem Z0b(o:QOa c0)(hb:c0.Buffer=[])(hs:srvF s0=⟨0,0⟩)(fx:Fx c0 s0 g D U)(h:Hist c0 s0 g x d u)(hne:¬(x.down=[]/\x.up=[]))(k:Int)(hk:k < 0∨1<=k):
 ∃(n:Nat) (y:zma) (d' u' :List UInt8),voa x k=some ((n:Int),y)/\Hist c0 s0 g y d' u' /\1<=n/\d'.length+u'.length=d.length+u.length+n/\(1<=k->(n:Int)<=k):=by
 obtain ⟨a1,a2⟩:=h.all o fx;have al1:=a1.length_le;have al2:=a2.length_le;have hdl:=fx.dl;have hul:=fx.ul;simp only[jAl]at al1 al2;have pc:∀n,1<=n->1<=wcb k n/\wcb k n<=n/\(1<=k->(wcb k n:Int)<=k):=fun n hn=>by
  unfold wcb;split
  .exact ⟨hn,jAn _,fun _=>by omega⟩
  exact ⟨by omega,by omega,fun _=>by omega⟩
 unfold voa;by_cases hd:x.down=[]
 .have hu:x.up≠ []:=fun e=>hne ⟨hd,e⟩
  have hpos:1<=x.up.length:=jCv.2 hu;obtain ⟨p1,p2,p3⟩:=pc _ hpos;rw[show decide (0 < (x.down.length:Int))=false by rw[hd];rfl];simp only[cond_false];rw[jMb k x.up.length];simp only[jAc];rw[KNa p2,jba p2];simp only[jAc];generalize hq:wcb k x.up.length=q at p1 p2 p3;have hut:u++x.up.take q <+:u++x.up:=List.prefix_append_right_inj _ |>.2 (List.take_prefix _ _)
  have hle:∀D U,Fx c0 s0 g D U->d <+:D/\u++x.up.take q <+:U:=fun D U fx=>⟨(h.le D U fx).1,hut.trans (h.all o fx).2⟩
  have hc:=qhb (s:=s0) (by rw[hs]);have si0:=jzb (s:=s0) (by rw[hs]);have v1:=Vkb u _ 0 si0 (vs_of_ok hc.2.1);have si1:=(WOa u (by omega) _ si0).2;have si2:=(WOa (u++x.up.take q) (by rw[jAl,jBt];omega) _ si0).2;have cfe:=Vmb u ⟨s0,[],[]⟩;have sm:=yqb si1 v1;have hsrv:srvF (zRa ⟨s0,[],[]⟩ u).Server=⟨0,0⟩:=by
   unfold cf at cfe;simp only[Prod.mk.injEq]at cfe;obtain ⟨c1,c2,c3⟩:=cfe;unfold srvF;rw[c1,c2,c3,if_neg (by simp[hc.1]),jAb v1,if_neg (by simp)]
  have app:=JKa u (x.up.take q) s0;have hlt:(x.up.take q).length=q:=by rw[jBt];omega
  rw[h.sv,FeedP_eq _ _ sm hsrv (by omega)];simp only[jAc];have m1:=si2.mails;have r1:=si2.reps;rw[app]at m1 r1;simp only[spre,jAl]at m1 r1;rw[h.ml,kRa (by omega)];simp only[jAc];have hok:∀r∈(zRa ⟨(zRa ⟨s0,[],[]⟩ u).Server,[],[]⟩ (x.up.take q)).replies,okR r=true:=fun r hr=>by
   refine fx.ok r ?_;have:=(Wea (s0:=s0) (hle D U fx).2).1;rw[app]at this;exact this.subset (List.mem_append_right _ hr)
  rw[z8b _ _ hok (by omega) (by rw[hd];simp)];simp only[jAc];refine ⟨q,_,d,u++x.up.take q,rfl,⟨h.cl,?_,?_,?_,?_,hle⟩,p1,by rw[jAl,hlt];omega,p3⟩
  .rw[app];rfl
  .have:=h.dn;rw[hd,jBj]at this;show d++(x.down++q0a _)=_;rw[app,hd,jBm];show _=g++q0a (_++_);rw[wwa,<-jAx,<-this]
  .show u++x.up.take q++x.up.drop q=_;rw[jAx,jEk,h.up]
  rw[app];rfl
 have hpos:1<=x.down.length:=jCv.2 hd;obtain ⟨p1,p2,p3⟩:=pc _ hpos;rw[decide_eq_true (show 0 < (x.down.length:Int) by omega)];simp only[cond_true];rw[jMb k x.down.length];simp only[jAc];rw[KNa p2,jba p2];simp only[jAc];generalize hq:wcb k x.down.length=q at p1 p2 p3;have hdt:d++x.down.take q <+:d++x.down:=List.prefix_append_right_inj _ |>.2 (List.take_prefix _ _)
 have hle:∀D U,Fx c0 s0 g D U->d++x.down.take q <+:D/\u <+:U:=fun D U fx=>⟨hdt.trans (h.all o fx).1,(h.le D U fx).2⟩
 obtain ⟨ok,_,hbl,_⟩:=Jwa o (d:=d) (by rw[hb];simp;omega);rw[hb]at hbl;simp only[jBw]at hbl;have hlt:(x.down.take q).length=q:=by rw[jBt];omega
 have hout:=YMa o (hle D U fx).1;rw[fx.out]at hout;have hol:=hout.length_le;rw[jpa o]at hol;simp only[pre,jAl]at hol;have hup:=congrArg List.length h.up;rw[jAl]at hup;rw[h.cl,feed_eq _ _ ok.small (by omega),feedP_ok ok (by omega)];simp only[jAc];rw[kRa (by omega)];simp only[jAc];refine ⟨q,_,d++x.down.take q,u,rfl,⟨?_,h.sv,?_,?_,h.ml,hle⟩,p1,by rw[jAl,hlt];omega,p3⟩
 .rw[jpa o];rfl
 .show d++x.down.take q++x.down.drop q=_;rw[jAx,jEk,h.dn]
 show u++(x.up++_)=_;rw[jpa o,<-jAx,h.up];rfl
theorem steps_eq(o:QOa c0)(hb:c0.Buffer=[])(hs:srvF s0=⟨0,0⟩)(fx:Fx c0 s0 g D U)(cuts:List Int)(hc:∀c∈cuts,1<=c/\c<=40000)(ha:cuts.length<=300):
 ∀(w:Nat) (x:zma) (d u:List UInt8) (k:Nat) (left:Int),D.length+U.length - (d.length+u.length)<=w->Hist c0 s0 g x d u-> -1<=left->left<=1000000->k<=d.length+u.length->
 ∃(y:zma) (d' u' :List UInt8),iter (kya cuts) ((k:Int),left,x)=some y/\Hist c0 s0 g y d' u' /\(left= -1->y.down=[]/\y.up=[])/\(left=0->d' =d/\u' =u):=by
 intro w;induction w with
 | zero=>
  intro x d u k left hw h h1 h2 hk;obtain ⟨a1,a2⟩:=h.all o fx;have al1:=a1.length_le;have al2:=a2.length_le;simp only[jAl]at al1 al2;have e1:x.down=[]:=jDc.1 (by omega);have e2:x.up=[]:=jDc.1 (by omega);refine ⟨x,d,u,zOa ?_,h,fun _=>⟨e1,e2⟩,fun _=>⟨rfl,rfl⟩⟩;unfold kya;dsimp only;rw[e1,e2];rfl
 | succ w ih=>
  intro x d u k left hw h h1 h2 hk;obtain ⟨a1,a2⟩:=h.all o fx;have al1:=a1.length_le;have al2:=a2.length_le;have hdl:=fx.dl;have hul:=fx.ul;simp only[jAl]at al1 al2;by_cases hz:left=0
  .subst hz;refine ⟨x,d,u,zOa ?_,h,fun e=>by omega,fun _=>⟨rfl,rfl⟩⟩;unfold kya;dsimp only;rw[show ((0:Int) !=0)=false from rfl];cases decide (0 < w64 ((x.down.length:Int)+(x.up.length:Int))) <;> rfl
  by_cases hne:x.down=[]/\x.up=[]
  .refine ⟨x,d,u,zOa ?_,h,fun _=>hne,fun e=>absurd e hz⟩;unfold kya;dsimp only;rw[hne.1,hne.2];rfl
  have hlen:0 < x.down.length+x.up.length:=by
   rcases jEf x.down.length with e | e
   .rcases jEf x.up.length with e2 | e2
    .exact absurd ⟨jDc.1 e,jDc.1 e2⟩ hne
    omega
   omega
  obtain ⟨j,hj,hj1⟩:∃j:Int,(((bif decide (0 < (cuts.length:Int)) then (nz ((cuts.length:Int))).bind fun v45=>(idx cuts ((iRem (k:Int) ((cuts.length:Int))))).bind fun v47=>some v47 else some ((-1))):Option Int))=some j/\(j= -1∨1<=j):=by
   by_cases h0:0 < cuts.length
   .rw[decide_eq_true (by omega)];have hm:iRem (k:Int) (cuts.length:Int)=((k % cuts.length:Nat):Int):=by unfold iRem;rfl
    have hlt:=Nat.mod_lt k h0;have hnz:nz (cuts.length:Int)=some true:=by
     unfold nz;rw[show ((cuts.length:Int)==0)=false by rw[beq_eq_false_iff_ne];omega];rfl
    rw[hnz,hm,yYb hlt];exact ⟨_,rfl,.inr (hc _ (jDj hlt)).1⟩
   rw[decide_eq_false (by omega)];exact ⟨-1,rfl,.inl rfl⟩
  obtain ⟨q,hq,hq1,hq2⟩:∃q:Int,((((bif decide (0 < left) then (bif decide (j < 0) then some true else some (decide (left < j))) else some false):Option Bool).bind fun (j50:Bool)=>(bif j50 then some left else some j)):Option Int)=some q/\(q < 0∨1<=q)/\(0 < left->1<=q/\q<=left):=by
   by_cases hl:0 < left
   .rw[decide_eq_true hl];by_cases hj0:j < 0
    .rw[decide_eq_true hj0];exact ⟨left,rfl,by omega,fun _=>by omega⟩
    rw[decide_eq_false hj0];by_cases hj3:left < j
    .rw[decide_eq_true hj3];exact ⟨left,rfl,by omega,fun _=>by omega⟩
    rw[decide_eq_false hj3];exact ⟨j,rfl,by omega,fun _=>by omega⟩
   rw[decide_eq_false hl];exact ⟨j,rfl,by omega,fun h=>absurd h hl⟩
  obtain ⟨n,y,d',u',e1,h',n1,n2,n3⟩:=Z0b o hb hs fx h hne q hq1;obtain ⟨b1,b2⟩:=h'.all o fx;have bl1:=b1.length_le;have bl2:=b2.length_le;simp only[jAl]at bl1 bl2;have vla:∃left' :Int,kya cuts ((k:Int),left,x)=some (.cont (((k+1:Nat):Int),left',y))/\ -1<=left' /\left' <=1000000/\(left= -1->left' = -1):=by
   unfold kya;dsimp only;rw[W3a _ _ (by omega),decide_eq_true (show (0:Int) < ((x.down.length+x.up.length:Nat):Int) by omega),show (left !=0)=true by simpa using hz];simp only[cond_true,jAc];rw[hj];simp only[jAc];rw[hq];simp only[jAc];rw[e1];simp only[jAc];rw[sc k (by omega)];by_cases hl:0 < left
   .rw[decide_eq_true hl];obtain ⟨q1,q2⟩:=hq2 hl;have:=n3 q1;refine ⟨left - n,?_,by omega,by omega,fun e=>by omega⟩;simp only[cond_true,jAc];rw[qwa (by omega) (by omega)]
   rw[decide_eq_false hl];exact ⟨left,rfl,h1,h2,id⟩
  obtain ⟨left',e2,l1,l2,l3⟩:=vla;obtain ⟨z,d2,u2,f1,f2,f3,f4⟩:=ih y d' u' (k+1) left' (by omega) h' l1 l2 (by omega);exact ⟨z,d2,u2,(zYa e2).trans f1,f2,fun e=>f3 (l3 e),fun e=>absurd e hz⟩
end
def cutB(c:Int):Bool:=decide (c < 1) || decide (40000 < c)
def kUa:Str:=[99,108,105,101,110,116]
def j1a(m:zua)(nm:Str)(sz mx:Int)(cuts:List Int)(loss:Int):zqa:=
 if (qRa kUa m).Code≠0 then qRa kUa m else if (jQa nm sz mx).Code≠0 then jQa nm sz mx else if 300 < cuts.length then ⟨2, -25⟩ else if cuts.any cutB then ⟨3, -25⟩ else if loss < -1∨1000000 < loss then ⟨3, -26⟩ else ⟨0,0⟩
theorem wdb(l:List Int)(hl:l.length<=1048576):∃j:Int,((iter (qOa l) 0).bind (Sum.elim (fun b16=>some ((-1))) (fun b17=>some b17)):Option Int)=some j/\decide (0<=j)=l.any cutB:=by
 have h1:=kga l (fun i c=>if cutB c then some ((i:Nat):Int) else none) (.inl ()) .inr (body:=qOa l) (by unfold qOa;rw[kLa];rfl) (fun i c hc=>by
  have hi:=kla hc;have e:((bif decide (c < 1) then some true else some (decide (40000 < c))):Option Bool)=some (cutB c):=by unfold cutB;cases decide (c < 1) <;> rfl
  unfold qOa;rw[qQa hc,kma hc];simp only[cond_true,jAc];rw[e];simp only[jAc];cases cutB c with
  | true=>rfl
  | false=>rw[sc i (by omega)];rfl)
 rw[h1];cases hf:zPa (fun i c=>if cutB c then some ((i:Nat):Int) else none) 0 l with
 | none=>
  refine ⟨-1,rfl,?_⟩;have:l.any cutB=false:=by
   rw[jCj];intro c hc hcb;obtain ⟨i,hi⟩:=List.mem_iff_getElem?.1 hc;have:=qia.1 hf i c hi;rw[if_pos hcb]at this;cases this
  rw[this];rfl
 | some r=>
  obtain ⟨i,c,hi,hq⟩:=jDa hf;have hcb:cutB c=true:=by
   cases h:cutB c with
   | true=>rfl
   | false=>rw[h,if_neg (by decide)]at hq;cases hq
  rw[hcb,if_pos rfl]at hq;cases hq;refine ⟨_,rfl,?_⟩;rw[List.any_eq_true.2 ⟨c,jAi hi,hcb⟩];exact decide_eq_true (by omega)
theorem web{n:Str}{m:zua}{p:Bool}(h:(qRa n m).Code=0):zRb n m p=(kFa n m p,⟨0,0⟩):=by
 unfold zRb;rw[if_neg (by simp[h])]
theorem Z1b{n:Str}{m:zua}{p:Bool}(h:¬(qRa n m).Code=0):zRb n m p=(QLb,qRa n m):=by
 unfold zRb;rw[if_pos h]
theorem VKb{n:Str}{a b:Int}(h:(jQa n a b).Code=0):newF n a b=(sv n a b false false [] [],rG n,⟨0,0⟩):=by
 unfold newF;rw[if_neg (by simp[h])];rfl
theorem newF_bad{n:Str}{a b:Int}(h:¬(jQa n a b).Code=0):newF n a b=(zeroS,⟨0,[]⟩,jQa n a b):=by
 unfold newF;rw[if_pos h]
section
variable {m:zua} {nm:Str} {sz mx:Int} {p:Bool} {cuts:List Int} {loss:Int}
theorem K7a(h1:jFa m.Envelope)(h2:ypa m.Message)(hn:nm.length<=1048576)(hcl:cuts.length<=1048576)(h:(j1a m nm sz mx cuts loss).Code≠0):z5a m nm sz mx p cuts loss=some ([],[],j1a m nm sz mx cuts loss):=by
 unfold z5a;rw[show (([99,108,105,101,110,116]:Str))=kUa from rfl,jib kUa m p (by decide) h1 h2,VIb nm sz mx hn];simp only[jAc,zBa,zAa];by_cases c1:(qRa kUa m).Code=0
 .rw[web c1];simp only[show ((0:Int) !=0)=false from rfl,cond_false];by_cases c2:(jQa nm sz mx).Code=0
  .rw[VKb c2];have hT:j1a m nm sz mx cuts loss=if 300 < cuts.length then ⟨2, -25⟩ else if cuts.any cutB then ⟨3, -25⟩ else if loss < -1∨1000000 < loss then ⟨3, -26⟩ else ⟨0,0⟩:=by
    unfold j1a;rw[if_neg (by simp[c1]),if_neg (by simp[c2])]
   rw[hT]at h ⊢;simp only[show ((0:Int) !=0)=false from rfl,cond_false];by_cases c3:300 < cuts.length
   .rw[if_pos c3,decide_eq_true (by omega)];rfl
   rw[if_neg c3]at h ⊢;rw[decide_eq_false (by omega)];obtain ⟨j,hj,hj2⟩:=wdb cuts hcl;simp only[cond_false];rw[hj];simp only[jAc];rw[hj2];cases c4:cuts.any cutB with
   | true=>rw[if_pos rfl];rfl
   | false=>
    rw[c4,if_neg (by decide)]at h;rw[if_neg (by decide)];by_cases c5:loss < -1∨1000000 < loss
    .rw[if_pos c5];have e:((bif decide (loss < (-1)) then some true else some (decide (1000000 < loss))):Option Bool)=some true:=by
      by_cases c6:loss < -1
      .rw[decide_eq_true c6];rfl
      rw[decide_eq_false c6,decide_eq_true (by omega)];rfl
     simp only[cond_false];rw[e];rfl
    rw[if_neg c5]at h;exact absurd rfl h
  have hT:j1a m nm sz mx cuts loss=jQa nm sz mx:=by
   unfold j1a;rw[if_neg (by simp[c1]),if_pos c2]
  rw[newF_bad c2,hT];rw[show ((jQa nm sz mx).Code !=0)=true by simpa using c2];rfl
 have hT:j1a m nm sz mx cuts loss=qRa kUa m:=by
  unfold j1a;rw[if_pos c1]
 rw[Z1b c1,hT];rw[show ((qRa kUa m).Code !=0)=true by simpa using c1];rfl
theorem jSa(h1:jFa m.Envelope)(h2:ypa m.Message)(h:(j1a m nm sz mx cuts loss).Code=0):
 ∃K,Ctx kUa nm m sz mx K/\∃d u,z5a m nm sz mx p cuts loss=some ((zRa (s00 nm sz mx) u).mails,finR (zXa (kFa kUa m p) d).C,⟨0,0⟩)/\
  d <+:repB (rG nm)++q0a (zRa (s00 nm sz mx) u).replies/\u <+:(zXa (kFa kUa m p) d).Out/\
  (∀D U,Fx (kFa kUa m p) (sv nm sz mx false false [] []) (repB (rG nm)) D U->d <+:D/\u <+:U)/\
  (loss= -1->d=repB (rG nm)++q0a (zRa (s00 nm sz mx) u).replies/\u=(zXa (kFa kUa m p) d).Out)/\(loss=0->d=[]/\u=[]):=by
 unfold j1a at h;split at h
 .rename_i c1;exact absurd h c1
 rename_i c1;split at h
 .rename_i c2;exact absurd h c2
 rename_i c2;split at h
 .exact absurd h (by decide)
 rename_i c3;split at h
 .exact absurd h (by decide)
 rename_i c4;split at h
 .exact absurd h (by decide)
 rename_i c5;have c1:(qRa kUa m).Code=0:=Classical.byContradiction c1;have c2:(jQa nm sz mx).Code=0:=Classical.byContradiction c2;obtain ⟨g1,g2⟩:=Qza c1;obtain ⟨_,q1,q2,q3,q4⟩:=JHa c2;have cx:Ctx kUa nm m sz mx mx.toNat:=⟨g1,⟨q2,q1⟩,g2,q3,by omega,by omega,h1,h2,by decide⟩;refine ⟨mx.toNat,cx,?_⟩;have o:=Q7a (p:=p) cx;obtain ⟨D,U,fx⟩:∃D U,Fx (kFa kUa m p) (sv nm sz mx false false [] []) (repB (rG nm)) D U:=by
  by_cases hb:((zia m.Message).length:Int)<=sz
  .exact ⟨_,_,(qtb cx hb).1⟩
  obtain ⟨D,fx,_⟩:=fx_bad (p:=p) cx (by omega);exact ⟨_,_,fx⟩
 have hs:srvF (sv nm sz mx false false [] [])=⟨0,0⟩:=by
  unfold srvF;rw[if_neg (by show ¬(jQa nm sz mx).Code≠0;simp[c2])];have:okB (sv nm sz mx false false [] [])=true:=by
   refine jAb ⟨.inl rfl,?_,rfl,?_,fun _=>⟨rfl,rfl⟩,?_,?_,?_,?_,fun _ _=>⟨rfl,rfl⟩,fun _=>⟨?_,rfl,rfl,rfl,rfl,rfl⟩,?_,?_,?_,.inl rfl⟩
   .show (0:Int)<=mx;omega
   .intro h;cases h
   .intro h;cases h
   .show (0:Int)<=sz;omega
   .exact ⟨jDg _,by show (0:Int)<=_;omega⟩
   .exact ⟨jDg _,by show (0:Int)<=_;omega⟩
   .show 0<=4001;omega
   .intro h;exact absurd h (show ¬(0:Int)=1 by decide)
   .intro h;exact absurd h (show ¬(0:Int)=2 by decide)
   intro h;exact absurd h (show ¬(0:Int)=3 by decide)
  rw[this,if_neg (by decide)]
 have hlow:repB (rG nm) <+:D:=by rw[<-fx.rep];exact jCt _ _
 have h0:Hist (kFa kUa m p) (sv nm sz mx false false [] []) (repB (rG nm)) ⟨kFa kUa m p,sv nm sz mx false false [] [],repB (rG nm),[],[]⟩ [] []:=
  ⟨rfl,rfl,by show []++repB (rG nm)=repB (rG nm)++ [];simp,rfl,rfl,fun _ _ _=>⟨List.nil_prefix,List.nil_prefix⟩⟩
 obtain ⟨y,d,u,e1,hy,l1,l2⟩:=steps_eq o rfl hs fx cuts (fun c hc=>by
  have:cutB c=false:=by
   cases hq:cutB c with
   | false=>rfl
   | true=>exact absurd (List.any_eq_true.2 ⟨c,hc,hq⟩) c4
  unfold cutB at this;simp only[jCe,decide_eq_false_iff_not]at this;omega) (by omega) _ _ _ _ 0 loss (jAn _) h0 (by omega) (by omega) (by simp)
 have hdl:=(hy.le D U fx).1.length_le;have hD:=fx.dl;obtain ⟨ok,_⟩:=Jwa o (d:=d) (by show 0+_<=_;omega);have hp1:d <+:repB (rG nm)++q0a (zRa (s00 nm sz mx) u).replies:=by
  have:=hy.dn;rw[show (⟨sv nm sz mx false false [] [],[],[]⟩:Ses)=s00 nm sz mx from rfl]at this;rw[<-this];exact jCt _ _
 have hp2:u <+:(zXa (kFa kUa m p) d).Out:=by rw[<-hy.up];exact jCt _ _
 refine ⟨d,u,?_,hp1,hp2,hy.le,fun e=>?_,fun e=>l2 e⟩
 .unfold z5a;rw[show (([99,108,105,101,110,116]:Str))=kUa from rfl,jib kUa m p (by decide) h1 h2,VIb nm sz mx (by omega)];simp only[jAc,zBa,zAa];rw[web c1,VKb c2];simp only[show ((0:Int) !=0)=false from rfl,cond_false];rw[decide_eq_false (by omega)];obtain ⟨j,hj,hj2⟩:=wdb cuts (by omega);simp only[cond_false];rw[hj];simp only[jAc];rw[hj2,show cuts.any cutB=false by simpa using c4];have e:((bif decide (loss < (-1)) then some true else some (decide (1000000 < loss))):Option Bool)=some false:=by
   rw[decide_eq_false (by omega),decide_eq_false (by omega)];rfl
  simp only[cond_false];rw[e];simp only[jAc,cond_false];rw[z8b _ [rG nm] (fun r hr=>by rw[jBi.1 hr];exact okR_G cx) (by simp) (by simp)];simp only[jAc];have e2:dwn ⟨kFa kUa m p,sv nm sz mx false false [] [],[],[],[]⟩ ([]++q0a [rG nm])=⟨kFa kUa m p,sv nm sz mx false false [] [],repB (rG nm),[],[]⟩:=by
   rw[jBm,yYa];rfl
  rw[e2];have e3:iter (kya cuts) (0,loss,⟨kFa kUa m p,sv nm sz mx false false [] [],repB (rG nm),[],[]⟩)=some y:=e1;rw[e3];simp only[jAc];have hml:y.mails=(zRa (s00 nm sz mx) u).mails:=hy.ml;rw[hy.cl];cases hdn:(zXa (kFa kUa m p) d).C.Done with
  | true=>
   simp only[jBf,cond_false,jAc];rw[hml,hy.cl];unfold finR;rw[if_pos hdn];rfl
  | false=>
   simp only[jDn,cond_true];rw[close_eq _ ok.small];unfold QOb;rw[QMb ok,if_neg (by decide)];simp only[jAc];rw[hml];unfold finR;rw[if_neg (by rw[hdn];decide)];rfl
 obtain ⟨z1,z2⟩:=l1 e;have d1:=hy.dn;have u1:=hy.up;rw[z1,jBj]at d1;rw[z2,jBj]at u1;exact ⟨d1,u1⟩
end
end
section
section
variable {m:zua} {nm:Str} {sz mx:Int} {p:Bool} {cuts:List Int} {loss:Int}
theorem yxb(h1:jFa m.Envelope)(h2:ypa m.Message)(h:(j1a m nm sz mx cuts (-1)).Code=0)(hb:((zia m.Message).length:Int)<=sz)(hK:(m.Envelope.To.length:Int)<=mx):
 z5a m nm sz mx p cuts (-1)=some ([⟨⟨m.Envelope.From,m.Envelope.To,nm++ [45]++Lib.decDigits 1⟩,m.Message⟩],List.replicate m.Envelope.To.length 1,⟨0,0⟩):=by
 obtain ⟨K,cx,d,u,e,_,_,le,l1,_⟩:=jSa (p:=p) h1 h2 h;obtain ⟨a1,a2⟩:=le _ _ (qtb cx hb).1;obtain ⟨b1,b2⟩:=l1 rfl;obtain ⟨c1,c2⟩:=ZZb cx hb a1 a2 b1 b2;have hk:m.Envelope.To.length<=K:=by have:=cx.many;omega
 rw[e,c1,c2];have e1:gotM nm m K=⟨⟨m.Envelope.From,m.Envelope.To,nm++ [45]++Lib.decDigits 1⟩,m.Message⟩:=by
  unfold gotM;rw[jCm hk]
 have e2:resL K m.Envelope.To.length (m.Envelope.To.length+3)=List.replicate m.Envelope.To.length 0:=by
  refine List.ext_getElem? fun i=>?_
  by_cases hi:i < m.Envelope.To.length
  .rw[Jya hi,if_neg (by omega),List.getElem?_replicate,if_pos hi]
  rw[jBr (by rw[V7a];omega),jBr (by rw[List.length_replicate];omega)]
 rw[e1,e2];unfold KXa;rw[List.map_replicate];rfl
end
theorem tran_ex:j1a sM [109,120] 1000 10 [] (-1)=⟨0,0⟩/\j1a sM [109,120] 1000 10 [1] 0=⟨0,0⟩/\j1a sM [109,120] 1000 10 [0] 0=⟨3, -25⟩:=by
 have e1:qRa kUa sM=⟨0,0⟩:=by kernel_rfl
 have e2:jQa [109,120] 1000 10=⟨0,0⟩:=by kernel_rfl
 unfold j1a;rw[e1,e2];exact ⟨rfl,rfl,rfl⟩
theorem JPa:wRa=some true:=by
 obtain ⟨t1,t2,t3⟩:=tran_ex;obtain ⟨s1,s2⟩:=sM_small;have w1:=yxb (p:=true) (cuts:=[]) s1 s2 (by rw[t1]) (show ((zia sM.Message).length:Int)<=1000 by decide) (show (1:Int)<=10 by decide);have w2:z5a sM [109,120] 1000 10 false [1] 0=some ([],[2],⟨0,0⟩):=by
  obtain ⟨K,cx,d,u,e,_,_,_,_,l2⟩:=jSa (p:=false) s1 s2 (show (j1a sM [109,120] 1000 10 [1] 0).Code=0 by rw[t2]);obtain ⟨rfl,rfl⟩:=l2 rfl;rw[e];rfl
 have w3:=K7a (p:=false) s1 s2 (by decide) (by decide) (show (j1a sM [109,120] 1000 10 [0] 0).Code≠0 by rw[t3];decide);unfold wRa;rw[QRb];simp only[jAc];rw[w1,w2,w3,t3];simp only[jAc,R_At_eq];rw[show List.replicate sM.Envelope.To.length (1:Int)=[1] from rfl,Jua [1] (by decide),Jua [2] (by decide)];rfl
end
theorem jTa(a0:zua)(a1:Int)(a2:Int)(a3:Bool)(a4:List Int)(o0:zua.ok a0)(o1:ok64 a1)(o2:ok64 a2)(o3:True)(o4:okL ok64 a4)(hk:zua.bk a0+1+1+1+bkL (fun _=>1) a4<=1048576):qKa a0 a1 a2 a3 a4=some true:=by
 have hb:zua.bk a0<=1048576:=by omega
 have s1:jFa a0.Envelope:=K7b (by unfold zua.bk at hb;omega);have s2:ypa a0.Message:=Qhb (by unfold zua.bk at hb;omega);have hcl:=kMb (bk:=fun _:Int=>1) (fun x=>by simp) a4;have hto:a0.Envelope.To.length<=1048576:=by obtain ⟨_,_,h,_⟩:=s1;exact h
 unfold qKa;rw[JPa];by_cases h:(j1a a0 [109,120] a1 a2 a4 (-1)).Code=0
 .have h' :(j1a a0 [109,120] a1 a2 [] (-1)).Code=0:=by
   unfold j1a at h ⊢;split
   .rename_i c;rw[if_pos c]at h;exact h
   rename_i c;rw[if_neg c]at h;split
   .rename_i c;rw[if_pos c]at h;exact h
   rfl
  obtain ⟨K,cx,d,u,e,_,_,le,f,_⟩:=jSa (p:=a3) s1 s2 h;obtain ⟨K',cx',d',u',e',_,_,le',f',_⟩:=jSa (p:=a3) s1 s2 h';obtain ⟨f1,f2⟩:=f rfl;obtain ⟨f1',f2'⟩:=f' rfl;have hK:K' =K:=by have:=cx.many;have:=cx'.many;omega
  obtain ⟨D,U,fx,hmU⟩:∃D U,Fx (kFa kUa a0 a3) (sv [109,120] a1 a2 false false [] []) (repB (rG [109,120])) D U/\(zRa (s00 [109,120] a1 a2) U).mails.length<=1/\∀m∈(zRa (s00 [109,120] a1 a2) U).mails,m=gotM [109,120] a0 K:=by
   by_cases hb:((zia a0.Message).length:Int)<=a1
   .obtain ⟨fx,hm⟩:=qtb (p:=a3) cx hb;exact ⟨_,_,fx,by rw[hm];simp,by rw[hm];simp⟩
   obtain ⟨D,fx,_,hm⟩:=fx_bad (p:=a3) cx (by omega);exact ⟨_,_,fx,by rw[hm];simp,by rw[hm];simp⟩
  have fix:∀d u,d <+:D->u <+:U->d=repB (rG [109,120])++q0a (zRa (s00 [109,120] a1 a2) u).replies->u=(zXa (kFa kUa a0 a3) d).Out->Fx (kFa kUa a0 a3) (sv [109,120] a1 a2 false false [] []) (repB (rG [109,120])) d u:=fun d u p1 p2 q1 q2=>
   ⟨q2.symm,q1.symm,jBp p1.length_le fx.dl,jBp p2.length_le fx.ul,fun r hr=>fx.ok r ((Wea (s0:=sv [109,120] a1 a2 false false [] []) p2).1.subset hr)⟩
  obtain ⟨p1,p2⟩:=le D U fx;obtain ⟨p1',p2'⟩:=le' D U fx;obtain ⟨x1,x2⟩:=le _ _ (fix d' u' p1' p2' f1' f2');obtain ⟨y1,y2⟩:=le' _ _ (fix d u p1 p2 f1 f2);obtain rfl:=qsb x1 y1;obtain rfl:=qsb x2 y2;have hml:(zRa (s00 [109,120] a1 a2) u).mails <+:(zRa (s00 [109,120] a1 a2) U).mails:=(Wea (s0:=sv [109,120] a1 a2 false false [] []) p2).2;have hdl:=p1.length_le;have hD:=fx.dl;have hres:=(len_res (p:=a3) cx (d:=d) (by omega)).2;rw[e,e'];simp only[jAc,jBf,cond_false,show ((0:Int) !=0)=false from rfl,show ((0:Int)==0)=true from rfl,cond_true];rw[Yga _ (by have:=hml.length_le;omega) (fun m hm=>by
   rw[hmU.2 m (hml.subset hm)];exact ⟨by show (a0.Envelope.To.take K).length<=_;rw[jBt];omega,s2.1.1⟩)]
  simp only[jAc,cond_true];rw[Jua _ (by omega)];rfl
 have ht:∃v,z5a a0 [109,120] a1 a2 a3 [] (-1)=some v:=by
  by_cases h' :(j1a a0 [109,120] a1 a2 [] (-1)).Code=0
  .obtain ⟨_,_,_,_,e',_⟩:=jSa (p:=a3) s1 s2 h';exact ⟨_,e'⟩
  exact ⟨_,K7a s1 s2 (by decide) (by decide) h'⟩
 obtain ⟨v,hv⟩:=ht;rw[K7a s1 s2 (by decide) (by omega) h,hv];have e:((j1a a0 [109,120] a1 a2 a4 (-1)).Code !=0)=true:=by simpa using h
 simp only[jAc,jBf,cond_false,e,cond_true];rfl
section
section
variable {E:Env} {T:Tab} {fr:Fr} {σ:Sto} {k:KS} {ops:Array Oper} {l:List Oper} {V R:Type} {r:R} {A B:Option R} {t:Bool} {g:GS}
def isR:Exit->Bool
 | .normal=>true
 | .ret=>true
 | _=>false
theorem VLb{e:Exit}(h:isR e=true):isN e=true∨e=.ret:=by cases e <;> simp_all [isR,isN]
theorem jx(hT:kca E.P T)(n:Nat){J:Type}{a j:J}(hr:some a=some j){frs:J->Fr}{stos:J->Sto}(h:GS.run T E.N n g=some (.at .normal fr σ (.jo frs stos (fun z=>j=z) k)):=by exact rfl)(hf:(frs a).map fr.sel=frs a:=by exact rfl)(hs:(stos a).map σ.sel=(stos a).map (fun p=>some p.2):=by exact rfl):g.holds E:=
 rn hT n h (by cases hr;exact jn _ rfl hf hs)
theorem kx(hT:kca E.P T)(n:Nat){a r:R}(hr:some a=some r){fn:Func}{rv:AV}{cs:List AV}{e:Exit}{hm:Mono (Kret E.P fn rv)}(h:GS.run T E.N n g=some (.at e fr σ (.base (Kret E.P fn rv) hm)):=by exact rfl)(he:isR e=true:=by exact rfl)(hc:VKa T fr σ fn.results.toList=some cs:=by exact rfl)(hv:some a=some r->VDa cs=rv:=by (rintro ⟨⟩;exact rfl)):g.holds E:=
 rn hT n h (kr hT (VLb he) hc (hv hr))
theorem cx(hT:kca E.P T)(n:Nat){A B:Type}{s:A}{x:Step A B}(hr:some (.cont s)=some x){frs:A->Fr}{stos:A->Sto}{O:B->Post}{hm:Mono (Zva frs stos O x)}(h:GS.run T E.N n g=some (.at .normal fr σ (.base (Zva frs stos O x) hm)):=by exact rfl)(hf:(frs s).map fr.sel=frs s:=by exact rfl)(hs:(stos s).map σ.sel=(stos s).map (fun p=>some p.2):=by exact rfl):g.holds E:=
 rn hT n h (by cases hr;exact ⟨rfl,frw hf,stw hs⟩)
theorem ox(hT:kca E.P T)(n:Nat){A B:Type}{b:B}{x:Step A B}(hr:some (.out b)=some x){e:Exit}{frs:A->Fr}{stos:A->Sto}{e0:B->Exit}{fr0:B->Fr}{σ0:B->Sto}{hm:Mono (Zva frs stos (fun b=>At (e0 b) (fr0 b) (σ0 b)) x)}(h:GS.run T E.N n g=some (.at e fr σ (.base (Zva frs stos (fun b=>At (e0 b) (fr0 b) (σ0 b)) x) hm)):=by exact rfl)(he:e=e0 b:=by exact rfl)(hn:isN e=false:=by exact rfl)(hf:(fr0 b).map fr.sel=fr0 b:=by exact rfl)(hs:(σ0 b).map σ.sel=(σ0 b).map (fun p=>some p.2):=by exact rfl):g.holds E:=
 rn hT n h (by cases hr;exact ato he hn hf hs)
theorem sxx(hT:kca E.P T)(n:Nat){a r:R}(hr:some a=some r){fn:Func}{rv w:AV}{σ1:Sto}{Tm:Array Value}{H:Nat}{cs:List AV}{e:Exit}{hm:Mono (qYb E.P fn rv w H Tm σ1)}(h:GS.run T E.N n g=some (.at e fr σ (.base (qYb E.P fn rv w H Tm σ1) hm)):=by exact rfl)(he:isR e=true:=by exact rfl)(hc:VKa T fr σ fn.results.toList=some cs:=by exact rfl)(hv:some a=some r->VDa cs=rv:=by (rintro ⟨⟩;exact rfl))(hs:some a=some r->((H,.hold w (Tm.getD 0 undef))::σ1).map σ.sel=((H,.hold w (Tm.getD 0 undef))::σ1).map (fun p=>some p.2):=by (rintro ⟨⟩;exact rfl)):g.holds E:=
 rn hT n h (krS hT (VLb he) hc (hv hr) (stw (hs hr)))
theorem ax(hT:kca E.P T)(n d:Nat){x y:Code}(hr:(bif t then A else B)=some r)(hA:A=some r->(GS.code x ((d,.pv (.b (.bool true)))::fr) σ k).holds E)(hB:B=some r->(GS.code y ((d,.pv (.b (.bool false)))::fr) σ k).holds E)(h:GS.run T E.N n g=some (.code (.cond (.tmp d) x y) fr σ k):=by exact rfl)(hd:fr.get d=.pv (.b (.bool t)):=by exact rfl):g.holds E:=
 rn hT n h (ac d hr hd (fun _=>hA) (fun _=>hB))
theorem bx(hT:kca E.P T)(n d:Nat)(hr:(bif t then A else B)=some r)(hA:t=true->A=some r->(GS.ops ops l ((d,.pv (.b (.bool true)))::fr) σ k).holds E)(hB:t=false->B=some r->(GS.ops ops l ((d,.pv (.b (.bool false)))::fr) σ k).holds E)(h:GS.run T E.N n g=some (.ops ops l fr σ k):=by exact rfl)(hd:fr.get d=.pv (.b (.bool t)):=by exact rfl):g.holds E:=
 rn hT n h (bs d hr hd hA hB)
theorem clx(hT:kca E.P T)(n:Nat){X:Option V}{F:V->Option R}(hr:X.bind F=some r){f:FuncId}{d:Nat}{xs:List Operand}{ats:Array TypeId}{args:List AV}{rv:V->AV}{ty:TypeId}{pos:String}{af:Array Edge}(hc:∀v,X=some v->Run E.P f args (rv v))(hq:∀v,X=some v->F v=some r->(GS.ops ops l ((d,rv v)::fr) σ k).holds E)(h:GS.run T E.N n g=some (.ops ops (⟨some d,.call ⟨.value (.func f),xs.toArray,ats⟩,ty,pos,af,none⟩::l) fr σ k):=by exact rfl)(hN:Nat.ble (d+1) E.N=true:=by exact rfl)(ha:xs.map (fun x=>(fr.ev x).weak)=args:=by exact rfl):g.holds E:=by
 obtain ⟨v,h1,h2⟩:=zaa hr;exact rn hT n h (cl (hc v h1) hN ha (hq v h1 h2))
theorem csx(hT:kca E.P T)(n:Nat){X:Option V}{F:V->Option R}(hr:X.bind F=some r){f:FuncId}{d O:Nat}{xs:List Operand}{ats:Array TypeId}{args:List AV}{rv:V->AV}{σ0:Sto}{σ1:V->Sto}{rows:List Nat}{ty:TypeId}{pos:String}{af:Array Edge}(hc:∀v,X=some v->RunS E.P f args σ0 (rv v) (σ1 v) O rows)(hq:∀v,X=some v->F v=some r->(GS.ops ops l ((d,rv v)::fr.clrs rows) (σ1 v++(σ.dels (O::rows)).clrs rows) k).holds E)(h:GS.run T E.N n g=some (.ops ops (⟨some d,.call ⟨.value (.func f),xs.toArray,ats⟩,ty,pos,af,none⟩::l) fr σ k):=by exact rfl)(hN:Nat.ble (d+1) E.N=true:=by exact rfl)(ha:xs.map (fun x=>(fr.ev x).weak)=args:=by exact rfl)(hs:σ0.map σ.sel=σ0.map (fun p=>some p.2):=by exact rfl):g.holds E:=by
 obtain ⟨v,h1,h2⟩:=zaa hr;exact rn hT n h (wo (Qqa (hc v h1) hN ha (stw hs)) rfl (hq v h1 h2))
theorem rfx{P:Program}{f:FuncId}{fn:Func}{c:Code}{args:List AV}{r:AV}(hf:P.funcs[f]? =some fn)
 (h:∀g0 (hg:Gl g0),(GS.code c (kYa 0 args) [] (.base (Kret P fn r) qRb)).holds ⟨P,none,g0,fn.ntmps,false,hg,fun _=>False,fun _ _ h=>h⟩)
 (hb : fn.body = some c := by exact rfl) (hn : (fn.name == "runtime.NumGoroutine") = false := by kernel_rfl) (hN : Nat.ble args.length fn.ntmps = true := by exact rfl) (hr : ∀ k, r.has k = false := by exact fun _ => rfl) : Run P f args r := rf ⟨hf, hb, hn⟩ hN hr h
end
end
section
def Fr.px(fr:Fr):List Nat->Option Fr
 | []=>some []
 | k::ks=>match (fr.get k).force with
  | some a=>(match Fr.px fr ks with | some r=>some ((k,a)::r) | none=>none)
  | none=>none
theorem Fr.px_ok{fr:Fr}:∀{ks:List Nat} {r:Fr},fr.px ks=some r->FrLe fr r/\r.map (fun p=>fr.get p.1)=r.map (·.2)
 | [],r,h=>by cases h;exact ⟨kib,rfl⟩
 | k::ks,r,h=>by
  unfold Fr.px at h;split at h
  .rename_i a ha;split at h
   .rename_i r1 h1;cases h;obtain ⟨q1,q2⟩:=Fr.px_ok h1;refine ⟨YOa (AV.force_eq ha) q1,?_⟩;simp only[jCh,q2,AV.force_eq ha]
   cases h
  cases h
def Sto.px(σ:Sto):List Nat->Option Sto
 | []=>some []
 | k::ks=>match σ.get k with
  | some a=>(match Sto.px σ ks with | some r=>some ((k,a)::r) | none=>none)
  | none=>none
section
variable {E:Env} {T:Tab} {fr fr' :Fr} {σ σ' :Sto} {k:KS} {ops:Array Oper} {l:List Oper} {R:Type} {r:R} {g:GS}
theorem jq(hT:kca E.P T)(n:Nat){J:Type}{X:Option J}{f:J->Option R}(hr:X.bind f=some r)(ks os:List Nat)(F:J->Fr)(S:J->Sto){x y:Code}(hx:∀j,X=some j->(GS.code x fr σ (.jo (fun j=>F j++fr') (fun j=>S j++σ') (fun z=>j=z) k)).holds E)(hy:∀j,f j=some r->(GS.code y (F j++fr') (S j++σ') k).holds E)
 (h:GS.run T E.N n g=some (.code (.seq x y) fr σ k):=by exact rfl) (hf:fr.px ks=some fr' :=by exact rfl) (hs:σ.px os=some σ' :=by exact rfl):g.holds E:=
 rn hT n h (jb hr (fun j=>F j++fr') (fun j=>S j++σ') hx hy)
theorem jkq(hT:kca E.P T)(n:Nat){J:Type}(ks os:List Nat)(F:J->Fr)(S:J->Sto)(M:J->Prop){x y:Code}(hx:(GS.code x fr σ (.jo (fun j=>F j++fr') (fun j=>S j++σ') M k)).holds E)(hy:∀j,M j->(GS.code y (F j++fr') (S j++σ') k).holds E)
 (h:GS.run T E.N n g=some (.code (.seq x y) fr σ k):=by exact rfl) (hf:fr.px ks=some fr' :=by exact rfl) (hs:σ.px os=some σ' :=by exact rfl):g.holds E:=
 rn hT n h (jk (fun j=>F j++fr') (fun j=>S j++σ') M hx hy)
theorem ctq(hT:kca E.P T)(n:Nat){J:Type}{X:Option J}{f:J->Option R}{o:Oper}(hr:X.bind f=some r)(ks os:List Nat)(F:J->Fr)(S:J->Sto)
 (hx:∀j,X=some j->(∀fr1 σ1,(F j++fr').map fr1.sel=F j++fr' ->(S j++σ').map σ1.sel=(S j++σ').map (fun p=>some p.2)->AWPL E ops l fr1 σ1 (k.post E))->(GS.ops ops (o::l) fr σ k).holds E) (hy:∀j,f j=some r->(GS.ops ops l (F j++fr') (S j++σ') k).holds E)
 (h:GS.run T E.N n g=some (.ops ops (o::l) fr σ k):=by exact rfl) (hf:fr.px ks=some fr' :=by exact rfl) (hs:σ.px os=some σ' :=by exact rfl):g.holds E:=
 rn hT n h (ct hr (fun j=>F j++fr') (fun j=>S j++σ') hx hy)
theorem aq1(hT:kca E.P T)(n:Nat){A B:Type}{c:Code}{body:A->Option (Step A B)}{s:A}{f:B->Option R}(hr:(iter body s).bind f=some r)(ks os:List Nat)(F:A->Fr)(S:A->Sto)(e0:Exit)(ks1 os1:List Nat)(F1:B->Fr)(S1:B->Sto){fr1:Fr}{σ1:Sto}
 (h:∀s x,body s=some x->(GS.code c (F s++fr') (S s++σ') (.base (Zva (fun s=>F s++fr') (fun s=>S s++σ') (fun b=>At ((fun _=>e0) b) (F1 b++fr1) (S1 b++σ1)) x) ZBa)).holds E)
 (hK:∀b,f b=some r->(GS.at e0 (F1 b++fr1) (S1 b++σ1) k).holds E)
 (hg:GS.run T E.N n g=some (.code (.loop c) fr σ k):=by exact rfl) (h1:fr.px ks=some fr' :=by exact rfl) (h2:σ.px os=some σ' :=by exact rfl) (h3:fr.px ks1=some fr1:=by exact rfl) (h4:σ.px os1=some σ1:=by exact rfl) (hf:(F s++fr').map fr.sel=F s++fr' :=by exact rfl) (hs:(S s++σ').map σ.sel=(S s++σ').map (fun p=>some p.2):=by exact rfl):g.holds E:=
 rn hT n hg (al1 hr (fun s=>F s++fr') (fun s=>S s++σ') e0 (fun b=>F1 b++fr1) (fun b=>S1 b++σ1) hf hs h hK)
theorem aq2(hT:kca E.P T)(n:Nat){A B C:Type}{c:Code}{body:A->Option (Step A (B ⊕ C))}{s:A}{f:B->Option R}{f2:C->Option R}(hr:(iter body s).bind (Sum.elim f f2)=some r)(ks os:List Nat)(F:A->Fr)(S:A->Sto)(e1:Exit)(ks1 os1:List Nat)(F1:B->Fr)(S1:B->Sto)(e2:Exit)(ks2 os2:List Nat)(F2:C->Fr)(S2:C->Sto){fr1 fr2:Fr}{σ1 σ2:Sto}
 (h:∀s x,body s=some x->(GS.code c (F s++fr') (S s++σ') (.base (Zva (fun s=>F s++fr') (fun s=>S s++σ') (fun b=>At (Sum.elim (fun _=>e1) (fun _=>e2) b) (Sum.elim (fun b=>F1 b++fr1) (fun b=>F2 b++fr2) b) (Sum.elim (fun b=>S1 b++σ1) (fun b=>S2 b++σ2) b)) x) ZBa)).holds E)
 (hK1:∀b,f b=some r->(GS.at e1 (F1 b++fr1) (S1 b++σ1) k).holds E) (hK2:∀b,f2 b=some r->(GS.at e2 (F2 b++fr2) (S2 b++σ2) k).holds E)
 (hg:GS.run T E.N n g=some (.code (.loop c) fr σ k):=by exact rfl) (h1:fr.px ks=some fr' :=by exact rfl) (h2:σ.px os=some σ' :=by exact rfl) (h3:fr.px ks1=some fr1:=by exact rfl) (h4:σ.px os1=some σ1:=by exact rfl) (h5:fr.px ks2=some fr2:=by exact rfl) (h6:σ.px os2=some σ2:=by exact rfl) (hf:(F s++fr').map fr.sel=F s++fr' :=by exact rfl) (hs:(S s++σ').map σ.sel=(S s++σ').map (fun p=>some p.2):=by exact rfl):g.holds E:=
 rn hT n hg (al2 hr (fun s=>F s++fr') (fun s=>S s++σ') e1 (fun b=>F1 b++fr1) (fun b=>S1 b++σ1) e2 (fun b=>F2 b++fr2) (fun b=>S2 b++σ2) hf hs h hK1 hK2)
def fjoin(a b c:List AV):Option (List AV):=jua (a++b++c)
theorem iq(hT:kca E.P T)(n:Nat){d f:Nat}{fn:Func}{c:Code}{fx:Operand}{xs:List Operand}{ats:Array TypeId}{first cap args:List AV}{ty:TypeId}{pos:String}{af:Array Edge}(base:Nat)(ks:List Nat){keep:Fr}(hok:FnOk E.P f fn c)
 (h:∀(T:Array Value) (ds:List Deferred),(GS.code c (kYa 0 args) ((base+99999,.sus E.g0.w.heap.size ds)::(holds base T keep++σ)) (.base (InlK E ops l d fn base (base+99999) T ds (k.post E)) ySb)).holds ⟨E.P,none,E.g0,fn.ntmps,true,E.gl,E.S,E.sg⟩)
 (hg:GS.run T E.N n g=some (.ops ops (⟨some d,.call ⟨.value fx,xs.toArray,ats⟩,ty,pos,af,none⟩::l) fr σ k):=by exact rfl) (hf:fr.ev fx=.fn (.func f) first cap:=by exact rfl) (ha:fjoin first (xs.map fr.ev) cap=some args:=by exact rfl) (hN:(Nat.ble (d+1) E.N && Nat.ble args.length fn.ntmps)=true:=by exact rfl) (hk:fr.px ks=some keep:=by exact rfl):g.holds E:=
 rn hT n hg (il base (base+99999) keep hf hok hN (vDa ha) (Fr.px_ok hk).2 h)
def Sto.held(base:Nat):Sto->Option Fr
 | []=>some []
 | (k,ob)::r=>match ob with
  | .hold v _=>(match (Nat.ble base k && Nat.ble (k+1) (base+99999)) with
   | true=>(match v.force,Sto.held base r with | some a,some f=>some ((k - base,a)::f) | _,_=>none)
   | false=>Sto.held base r)
  | _=>Sto.held base r
def Sto.less(base:Nat):Sto->Option Sto
 | []=>some []
 | (k,ob)::r=>match (Nat.ble base k && Nat.ble k (base+99999)) with
  | true=>Sto.less base r
  | false=>(match Sto.less base r with | some f=>some ((k,ob)::f) | none=>none)
theorem ieq{E' :Env}(hT:kca E'.P T)(n:Nat){fr2:Fr}{σ2:Sto}{cs:List AV}{d:Nat}{fn:Func}{base:Nat}{Tm:Array Value}{ds:List Deferred}{e:Exit}{hm:Mono (InlK E ops l d fn base (base+99999) Tm ds (k.post E))}
 (h:AWPL E ops l ((d,VDa cs)::fr2) σ2 (k.post E)) (hg:GS.run T E'.N n g=some (.at e fr σ (.base (InlK E ops l d fn base (base+99999) Tm ds (k.post E)) hm)):=by exact rfl) (he:isR e=true:=by exact rfl) (hr:VKa T fr σ fn.results.toList=some cs:=by exact rfl) (h1:σ.held base=some fr2:=by exact rfl) (h2:σ.less base=some σ2:=by exact rfl)
 (hh:fr2.map (fun p=>σ.get (base+p.1))=fr2.map (fun p=>some (.hold p.2 (Tm.getD p.1 undef))):=by exact rfl) (hsu:σ.get (base+99999)=some (.sus E.g0.w.heap.size ds):=by exact rfl) (hle:σ2.map σ.sel=σ2.map (fun p=>some p.2):=by exact rfl) (hE:E.P=E'.P:=by exact rfl):g.holds E' :=
 rn hT n hg (ie (hE▸hT) cs fr2 σ2 (VLb he) hr hh hsu hle h)
def purL(l:List Oper)(cs:List (Option AV))(fr:Fr):Fr:=purF l cs (allT l)++fr
theorem mdq(hT:kca E.P T)(n:Nat){id:Nat}(tl:List (Nat × AV))(ks:List Nat){frJ:Fr}{ss:List Sto}{σJ:Sto}{cs:List (Option AV)}(ht:Told E l cs fr (σ::ss) tl)(h:(GS.at .normal frJ σJ k).holds E)
 (hmix:E.P.follows .mixedOrders=true) (hg:GS.run T E.N n g=some (.code (.region id l.toArray true) fr σ k):=by exact rfl) (hz:zrun T E.N tl l 0 fr σ=some (cs,ss,σJ):=by exact rfl)
 (hk:(zchk E.N tl l cs,(List.range ((hvL l cs).length+1)).map (fun k=>(purK l cs tl k).map (kFb T l cs fr (stoK σ ss k))),(List.range (hvL l cs).length).map (stoD T E.N l cs fr σ ss),stoK σ ss (hvL l cs).length)=(true,(List.range ((hvL l cs).length+1)).map (fun k=>(purK l cs tl k).map (QHa cs)),(List.range (hvL l cs).length).map (fun k=>some (stoK σ ss (k+1))),σJ):=by kernel_rfl)
 (hf:(purL l cs fr).px ks=some frJ:=by exact rfl):g.holds E:=
 rn hT n hg (mc hT tl frJ hmix hz hk ht (Fr.px_ok hf).1 h)
end
end
section
variable {E:Env} {T:Tab} {fr FR:Fr} {σ:Sto} {k:KS} {l:List Oper} {cs:List AV} {kn:List (Nat × Bool)} {tl:List (Nat × AV)} {g:GS}
def kget:List (Nat × Bool)->Nat->Option Bool
 | [],_=>none
 | (d,b)::r,i=>bif Nat.beq d i then some b else kget r i
inductive wfb (FR:Fr):List (Nat × Bool)->Prop
 | nil:wfb FR []
 | cons {d:Nat} {b t:Bool} {r:List (Nat × Bool)} (hv:FR.get d=.pv (.b (.bool t))) (ht:t=b) (hr:wfb FR r):wfb FR ((d,b)::r)
theorem wfb.get(h:wfb FR kn){d:Nat}{b:Bool}(hk:kget kn d=some b):∃t,FR.get d=.pv (.b (.bool t))/\t=b:=by
 induction h with
 | nil=>cases hk
 | @cons e b' t r hv ht _ ih=>
  unfold kget at hk;cases hb:Nat.beq e d with
  | true=>rw[hb]at hk;cases hk;have:=jAm hb;subst this;exact ⟨t,hv,ht⟩
  | false=>rw[hb]at hk;exact ih hk
def gsee(l:List Oper)(kn:List (Nat × Bool))(FR:Fr)(o:Oper):Option Bool:=match o.guard with
 | none=>some true
 | some (j,want)=>(match (l[j]?).bind (·.dst) with
  | none=>none
  | some d=>(match kget kn d with
   | some b=>some (b==want)
   | none=>(match FR.get d with | .tup []=>some false | .pv (.b (.bool t))=>(match t,want with | true,w=>some w | false,w=>some (!w)) | _=>none)))
theorem yyb(hk:wfb FR kn){o:Oper}{b:Bool}(h:gsee l kn FR o=some b):(b=true->wDa l.toArray FR o)/\(b=false->ZZa l.toArray FR o):=by
 unfold gsee at h;split at h
 .rename_i hg;cases h;exact ⟨fun _=>.plain hg,fun e=>by cases e⟩
 rename_i j want hg;split at h
 .cases h
 rename_i d hd;have hj:(l.toArray[j]?).bind (·.dst)=some d:=by simpa using hd
 split at h
 .rename_i b' hb;obtain ⟨t,hv,ht⟩:=hk.get hb;cases h;refine ⟨fun e=>.yes hg hj hv ?_,fun e=>.no hg hj hv ?_⟩
  .rw[ht];simpa using e
  rw[ht];cases b' <;> cases want <;> simp_all
 split at h
 .rename_i hv;cases h;exact ⟨fun e=>(by cases e),fun _=>.none hg hj hv⟩
 .rename_i t hv;split at h
  .cases h;exact ⟨fun e=>.yes hg hj hv e.symm,fun e=>.no hg hj hv (by rw[e];rfl)⟩
  cases h;exact ⟨fun e=>.yes hg hj hv (by cases want <;> simp_all),fun e=>.no hg hj hv (by cases want <;> simp_all)⟩
 cases h
def dval(T:Tab)(kn:List (Nat × Bool))(FR:Fr)(σ:Sto)(op:Op):Option AV:=match op with
 | .pick (.tmp d) x y=>(match kget kn d with | some true=>(FR.ev x).force | some false=>(FR.ev y).force | none=>qval T FR.ev σ op)
 | _=>qval T FR.ev σ op
theorem dval_ok(hT:kca E.P T)(hk:wfb FR kn){o:Oper}{c:AV}(h:dval T kn FR σ o.op=some c):OpG E o FR σ c:=by
 obtain ⟨dst,op,ty,pos,af,gu⟩:=o;dsimp only at h;unfold dval at h;split at h
 .split at h
  .rename_i hb;obtain ⟨t,hv,ht⟩:=hk.get hb;rw[<-AV.force_eq h];exact kua (qCb hv ht)
  .rename_i hb;obtain ⟨t,hv,ht⟩:=hk.get hb;rw[<-AV.force_eq h];exact kua (qDb hv ht)
  exact kua (Wta hT h)
 exact kua (Wta hT h)
def drun(T:Tab)(l:List Oper)(kn:List (Nat × Bool))(σ:Sto)(tl:List (Nat × AV)):List Oper->Nat->Fr->Option (List AV)
 | [],_,_=>some []
 | o::r,i,fr=>match o.dst with
  | none=>none
  | some d=>(match (match gsee l kn fr o with
   | some true=>(match tget tl i with | some c=>some c | none=>dval T kn fr σ o.op)
   | some false=>some (.tup [])
   | none=>none) with
   | some c=>(match drun T l kn σ tl r (i+1) ((d,c)::fr) with | some cs=>some (c::cs) | none=>none)
   | none=>none)
def dchk(T:Tab)(l:List Oper)(kn:List (Nat × Bool))(FR:Fr)(σ:Sto)(tl:List (Nat × AV))(cs:List AV)(i:Nat):Option AV:=match l[i]? with
 | none=>none
 | some o=>(match gsee l kn FR o with
  | some true=>(match tget tl i with | some _=>cs[i]? | none=>dval T kn FR σ o.op)
  | some false=>some (.tup [])
  | none=>none)
inductive Z2b (E:Env) (l:List Oper) (cs:List AV) (FR:Fr) (σ:Sto):List (Nat × AV)->Prop
 | nil:Z2b E l cs FR σ []
 | cons {i:Nat} {c:AV} {o:Oper} {r:List (Nat × AV)} (ho:l[i]? =some o) (hc:cs[i]? =some c) (h:OpG E o FR σ c) (hr:Z2b E l cs FR σ r):Z2b E l cs FR σ ((i,c)::r)
theorem Z2b.get(h:Z2b E l cs FR σ tl){i:Nat}{c:AV}(hi:tget tl i=some c):∃o c,l[i]? =some o/\cs[i]? =some c/\OpG E o FR σ c:=by
 induction h with
 | nil=>cases hi
 | @cons k c o r ho hc h _ ih=>
  unfold tget at hi;cases hb:Nat.beq k i with
  | true=>have:=jAm hb;subst this;exact ⟨o,c,ho,hc,h⟩
  | false=>rw[hb]at hi;exact ih hi
theorem VMb:∀{l' :List Oper} {cs' :List AV},cs'.length=l'.length->(∀(i:Nat) o c,l'[i]? =some o->cs'[i]? =some c->(wDa l.toArray FR o/\OpG E o FR σ c)∨(ZZa l.toArray FR o/\c=.tup []))->Pres E l.toArray FR σ l' cs'
 | [],[],_,_=>.nil
 | [],_::_,h,_=>by simp at h
 | _::_,[],h,_=>by simp at h
 | o::r,c::cs,hl,h=>by
  have ih:=VMb (l' :=r) (cs' :=cs) (by simpa using hl) fun i o c h1 h2=>h (i+1) o c (by simpa using h1) (by simpa using h2)
  rcases h 0 o c rfl rfl with ⟨h1,h2⟩ | ⟨h1,rfl⟩
  .exact .run h1 h2 ih
  exact .skip h1 ih
def jNb:Fr->Option Fr
 | []=>some []
 | (k,a)::r=>match a.force with
  | some a' =>(match jNb r with | some r' =>some ((k,a')::r') | none=>none)
  | none=>none
theorem wgb:∀{f f' :Fr},jNb f=some f' ->f=f'
 | [],_,h=>by cases h;rfl
 | (k,a)::r,f',h=>by
  unfold jNb at h;split at h
  .rename_i a' ha;split at h
   .rename_i r' hr;cases h;rw[AV.force_eq ha,wgb hr]
   cases h
  cases h
theorem dq(hT:kca E.P T)(n:Nat){id:Nat}(m:Nat)(kn:List (Nat × Bool))(tl:List (Nat × AV)){new:Fr}(hf:wfb (new++fr) kn)(ht:Z2b E l cs (new++fr) σ tl)(h:(GS.ops l.toArray (l.drop m) (new++fr) σ k).holds E)
 (hmix:E.P.follows .mixedOrders=true) (hg:GS.run T E.N n g=some (.code (.region id l.toArray true) fr σ k):=by exact rfl) (hz:drun T l kn σ tl (l.take m) 0 fr=some cs:=by exact rfl) (hn:jNb (Woa (l.take m) cs [])=some new:=by exact rfl)
 (hk:(Ksb l m && Nat.ble m l.length && ((l.take m).all fun o=>o.dst.all fun d=>Nat.ble (d+1) E.N) && Nat.beq cs.length m,(List.range m).map (dchk T l kn (new++fr) σ tl cs))=(true,(List.range m).map (cs[·]?)):=by kernel_rfl):g.holds E:=by
 have k1:=congrArg Prod.fst hk;have k2:=congrArg Prod.snd hk;simp only[jAh]at k1;obtain ⟨⟨⟨q1,q2⟩,q3⟩,q4⟩:=k1;have hlen:=jAm q4;have hm:=jAf q2;refine rn hT n hg (Ktb m new hmix q1 q2 q3 (VMb (by simp;omega) fun i o c h1 h2=>?_) (wgb hn) h);have him:i < m:=by have:=(jAd.1 h1).1;simp at this;omega
 rw[jBc him]at h1;have e:=List.map_inj_left.1 k2 i (jEj.2 him);unfold dchk at e;rw[h1,h2]at e;dsimp only at e;split at e
 .rename_i hg;split at e
  .rename_i c' hc;obtain ⟨o',c'',e1,e2,e3⟩:=ht.get hc;rw[h1]at e1;rw[h2]at e2;cases e1;cases e2;exact .inl ⟨(yyb hf hg).1 rfl,e3⟩
  exact .inl ⟨(yyb hf hg).1 rfl,dval_ok hT hf e⟩
 .rename_i hg;cases e;exact .inr ⟨(yyb hf hg).2 rfl,rfl⟩
 cases e
end
section
open Go.RowKit Go.Lib Go.Proofs.Tryz
variable {E:Env} {T:Tab} {fr:Fr} {σ:Sto} {k:KS} {l:List Oper} {cs:List (Option AV)} {all:List Node} {H:List Bool} {K:Post} {g:GS}
abbrev HvF:=Fr->Sto->Fr × Sto
def hget:List (Nat × HvF)->Nat->Option HvF
 | [],_=>none
 | (k,c)::r,i=>bif Nat.beq k i then some c else hget r i
def mrun(T:Tab)(tl:List (Nat × AV))(hl:List (Nat × HvF)):List Oper->Nat->Fr->Sto->Option (List (Option AV))
 | [],_,_,_=>some []
 | o::r,i,fr,σ=>match hget hl i with
  | some F=>(match F fr σ with | (f',s')=>(match mrun T tl hl r (i+1) f' s' with | some cs=>some (none::cs) | none=>none))
  | none=>(match o.dst with
   | none=>none
   | some d=>(match (match tget tl i with | some c=>some c | none=>qval T fr.ev σ o.op) with
    | some c=>(match mrun T tl hl r (i+1) ((d,c)::fr) σ with | some cs=>some (some c::cs) | none=>none)
    | none=>none))
def runH(hl:List (Nat × HvF)):List Nat->Fr->Sto->Option (Fr × Sto)
 | [],f,s=>some (f,s)
 | i::r,f,s=>match hget hl i with
  | some F=>(match F f s with | (f',s')=>runH hl r f' s')
  | none=>none
def ndsF(n:Nat)(hl:List (Nat × HvF))(fr:Fr)(σ:Sto):List (List Nat)->Option (List Node)
 | []=>some []
 | h::r=>match runH hl h fr σ with
  | some (f,s)=>(match ndsF n hl fr σ r with | some x=>some (((List.range n).map h.contains,f,s)::x) | none=>none)
  | none=>none
theorem mh(hT:kca E.P T)(n:Nat){id:Nat}(tl:List (Nat × AV))(hl:List (Nat × HvF))(Hs:List (List Nat))(h:KDa E l cs (k.post E) all all)
 (hmix:E.P.follows .mixedOrders=true) (hg:GS.run T E.N n g=some (.code (.region id l.toArray true) fr σ k):=by exact rfl) (hz:mrun T tl hl l 0 fr σ=some cs:=by exact rfl) (hn:ndsF l.length hl fr σ Hs=some all:=by exact rfl)
 (hok:(yVb E.N l cs,all[0]?)=(true,some (List.replicate l.length false,fr,σ)):=by kernel_rfl):g.holds E:=
 rn hT n hg (zBb cs all hmix (congrArg Prod.fst hok) (congrArg Prod.snd hok) rfl vTa qfa h)
theorem mfq(hT:kca E.P T)(is ks:List Nat){frJ:Fr}(h2:woa E l cs all H fr σ is)(h:K .normal frJ σ)(h1:((KFa l cs H is).map (kFb T l cs fr σ),(KFa l cs H is).all (fun i=>(QHa cs i).isSome))=((KFa l cs H is).map (QHa cs),true):=by kernel_rfl)(hf:(purL l cs fr).px ks=some frJ:=by exact rfl):kDb E l cs K all (H,fr,σ):=
 mf hT is frJ h1 h2 (Fr.px_ok hf).1 h
theorem mnq(hT:kca E.P T)(is:List Nat)(h2:woa E l cs all H fr σ is)(h1:(((List.range l.length).all fun i=> !(isHv cs i) || H.getD i false),(KFa l cs H is).map (kFb T l cs fr σ),(KFa l cs H is).all (fun i=>(QHa cs i).isSome))=(false,(KFa l cs H is).map (QHa cs),true):=by kernel_rfl):kDb E l cs K all (H,fr,σ):=mn hT is h1 h2
theorem mstw(j:Nat){i:Nat}{o:Oper}{σ' s2:Sto}{f2:Fr}{H2:List Bool}(h:HvS E o (purF l cs (allT l)++fr) σ σ')(ho:l[i]? =some o:=by exact rfl)(hn:all[j]? =some (H2,f2,s2):=by exact rfl)(e:(cs[i]?,H2,f2.map fr.sel,s2.map σ'.sel)=(some none,H.set i true,f2,s2.map (fun p=>some p.2)):=by kernel_rfl):YZa E l cs all H fr σ i:=
 .sto j ho (congrArg Prod.fst e) h (by have e2:H2=H.set i true:=congrArg (fun x=>x.2.1) e;rw[hn,e2]) (frw (congrArg (fun x=>x.2.2.1) e)) (stw (congrArg (fun x=>x.2.2.2) e))
theorem mdtw(j:Nat){i k:Nat}{o:Oper}{c:AV}{rs:List Nat}{σ' s2:Sto}{f2:Fr}{H2:List Bool}(h:HvD E o (purF l cs (allT l)++fr) σ k c rs σ')(ho:l[i]? =some o:=by exact rfl)(hn:all[j]? =some (H2,f2,s2):=by exact rfl)
 (e:(cs[i]?,H2,f2.map (Fr.sel ((k,c)::fr.clrs rs)),s2.map σ'.sel,((List.range l.length).all fun i=>y7a l cs i !=some k),q0b cs rs)=(some none,H.set i true,f2,s2.map (fun p=>some p.2),true,true):=by kernel_rfl):YZa E l cs all H fr σ i:=
 .dst j ho (congrArg (fun x=>x.1) e) (congrArg (fun x=>x.2.2.2.2.1) e) (congrArg (fun x=>x.2.2.2.2.2) e) h (by have e2:H2=H.set i true:=congrArg (fun x=>x.2.1) e;rw[hn,e2]) (frw (congrArg (fun x=>x.2.2.1) e)) (stw (congrArg (fun x=>x.2.2.2.1) e))
theorem mstq(j:Nat){i:Nat}{o:Oper}{σ' :Sto}(h:HvS E o (purF l cs (allT l)++fr) σ σ')(ho:l[i]? =some o:=by exact rfl)(e:(cs[i]?,all[j]?)=(some none,some (H.set i true,fr,σ')):=by kernel_rfl):YZa E l cs all H fr σ i:=mst j ho h e
theorem mdtq(j:Nat){i k:Nat}{o:Oper}{c:AV}{rs:List Nat}{σ' :Sto}(h:HvD E o (purF l cs (allT l)++fr) σ k c rs σ')(ho:l[i]? =some o:=by exact rfl)(e:(((List.range l.length).all fun i=>y7a l cs i !=some k),q0b cs rs,cs[i]?,all[j]?)=(true,true,some none,some (H.set i true,(k,c)::fr.clrs rs,σ')):=by kernel_rfl):YZa E l cs all H fr σ i:=mdt j ho h e
theorem mpu{i:Nat}{o:Oper}{c:AV}(h:OpG E o (purF l cs (allT l)++fr) σ c)(ho:l[i]? =some o:=by exact rfl)(hc:cs[i]? =some (some c):=by exact rfl):YZa E l cs all H fr σ i:=.pure ho hc h
end
theorem K8a(a0:List Str)(r:zua)(hr:Z6a a0=some r):Run prog 33 [.l cS a0] (.agg (zN0 r)):=by
 unfold Z6a at hr;refine rfx (fn:=f33) func33 fun g0 hg=>?_
 refine rn tk 10 rfl ?_;refine kJa 1003 (o:=3) (j:=1) 43 2 rfl rfl rfl rfl (hO ?_);refine rn tk 1 rfl ?_;refine kJa 2003 (o:=3) (j:=1) 43 2 rfl rfl rfl rfl (hO ?_);refine aq1 tk 9 hr [0,2,3] [] (fun s1=>[(4,.i s1.1)]) (fun s1=>[(2003,.row 43 false 2 (List.map zba.pc s1.2)),(3,.cells [.s (([115,64,120]:Str)),.hs 2003 0,.s (([55]:Str)),.l zga.pc ([]),.l cU ([])]),(2,.cells [.s (([]:Str)),.l zba.pc ([]),.s (([]:Str)),.l zga.pc ([]),.l cU ([])])]) (.exit 0) [2,3] [] (fun _=>[]) (fun b2=>[(2003,.row 43 false 2 (List.map zba.pc b2)),(3,.cells [.s (([115,64,120]:Str)),.hs 2003 0,.s (([55]:Str)),.l zga.pc ([]),.l cU ([])]),(2,.cells [.s (([]:Str)),.l zba.pc ([]),.s (([]:Str)),.l zga.pc ([]),.l cU ([])])]) (fun s1 x3 hr=>?_) (fun b2 hr=>?_)
 .unfold Z5a at hr;refine rn tk 5 rfl<|wn tk rfl rfl rfl ?_;refine ax tk 3 10 hr (fun hr=>?_) fun hr=>?_
  .refine rn tk 4 rfl ?_;obtain ⟨v5,h6,hr⟩:=zaa hr;obtain ⟨v7,h8,hr⟩:=zaa hr;refine mh tk 0 [(5,.ep [pS v5]),(8,.l zba.pc (([(zba.mk v5 1)]:List zba)))] [(2,fun f s=>((15,.hs 2003 0)::f,s)),(9,fun f s=>((22,.hs 2003 0)::Fr.clrs [2003] f,(Sto.upd (Sto.clr 2003 s) 2003 (.row 43 false 2 (List.map zba.pc v7))))),(12,fun f s=>(f,(Sto.upd s 3 (.cells [.s (([115,64,120]:Str)),.hs 2003 0,.s (([55]:Str)),.l zga.pc ([]),.l cU ([])]))))] [[],[2],[2,9],[2,9,12]] ?_ mixed;refine .cons (mnq tk [2,5,8] (.cons (mdtq 1 (hv_g rfl rfl (mqz tk rfl))) (.cons (mpu (kua (Kza (f:=cS) rfl rfl Z4a zGa rfl h6))) (.cons (mpu (wja (F:=zba.pc) (l:=([(zba.mk v5 1)]:List zba)) zha zxa rfl (fun _=>rfl) rfl rfl)) .nil)))) (.cons (mnq tk [5,8,9] (.cons (mpu (kua (Kza (f:=cS) rfl rfl Z4a zGa rfl h6))) (.cons (mpu (wja (F:=zba.pc) (l:=([(zba.mk v5 1)]:List zba)) zha zxa rfl (fun _=>rfl) rfl rfl)) (.cons (mdtq 2 (jva (F:=zba.pc) (l:=s1.2) (xs:=(([(zba.mk v5 1)]:List zba))) (lim:=5864062014805) rfl rfl rfl rfl zha zxa rfl rfl (fun _=>rfl) rfl h8)) .nil)))) (.cons (mnq tk [12] (.cons (mstq 3 (qba rfl rfl rfl zha rfl rfl)) .nil)) (.cons (mfq tk [] [0,2,3,4] .nil (hA ?_)) .nil)));exact cx tk 7 hr
  exact ox tk 2 hr
 refine rn tk 8 rfl ?_;refine Qna (o:=2) (j:=1) (F:=zba.pc) (l:=b2) rfl rfl rfl (hC ?_);exact kx tk 1 hr
theorem Wfa(a0:Int)(a1:Int)(r:zqa)(hr:R_At a0 a1=some r):Run prog 27 [.i a0,.i a1] (.agg [.i r.Code,.i r.Index]):=by
 unfold R_At at hr;refine rfx (fn:=f27) func27 fun g0 hg=>?_
 exact kx tk 14 hr
theorem ZSa(a0:List Int)(a1:List Int)(r:Bool)(hr:Y2a a0 a1=some r):Run prog 11 [.l cI a0,.l cI a1] (.bo r):=by
 unfold Y2a at hr;refine rfx (fn:=f11) func11 fun g0 hg=>?_
 refine rn tk 9 rfl<|wn tk rfl rfl rfl<|rn tk 1 rfl<|wn tk rfl rfl rfl ?_;refine ax tk 3 10 hr (fun hr=>?_) fun hr=>?_
 .exact kx tk 7 hr
 refine aq2 tk 9 hr [0,1] [] (fun s2=>[(5,.i s2)]) (fun _=>[]) (.exit 0) [] [] (fun _=>[]) (fun _=>[]) .ret [] [] (fun b4=>[(4,.bo b4)]) (fun _=>[]) (fun s2 x6 hr=>?_) (fun b3 hr=>?_) (fun b4 hr=>?_)
 .unfold VQa at hr;refine rn tk 5 rfl<|wn tk rfl rfl rfl ?_;refine ax tk 3 14 hr (fun hr=>?_) fun hr=>?_
  .refine rn tk 5 rfl ?_;obtain ⟨v8,h9,hr⟩:=zaa hr;obtain ⟨v10,h11,hr⟩:=zaa hr;refine mdq tk 0 [(2,.ep [pI v8]),(6,.ep [pI v10])] [0,1,5,25] (.cons rfl rfl (t0 (kua (Kza (f:=cI) rfl rfl q3a kQa rfl h9))) (.cons rfl rfl (t0 (kua (Kza (f:=cI) rfl rfl q3a kQa rfl h11))) .nil)) ?_ mixed;refine ax tk 1 25 hr (fun hr=>?_) fun hr=>?_
   .exact ox tk 8 hr
   exact cx tk 8 hr
  exact ox tk 2 hr
 .exact kx tk 8 hr
 exact kx tk 2 hr
theorem zwa(a0:zqa)(r:Bool)(hr:zDa a0=some r):Run prog 16 [.agg [.i a0.Code,.i a0.Index]] (.bo r):=by
 unfold zDa at hr;refine rfx (fn:=f16) func16 fun g0 hg=>?_
 exact kx tk 15 hr
theorem zea(a0:Int)(a1:Int)(r:zqa)(hr:zka a0 a1=some r):Run prog 18 [.i a0,.i a1] (.agg [.i r.Code,.i r.Index]):=by
 unfold zka at hr;refine rfx (fn:=f18) func18 fun g0 hg=>?_
 exact kx tk 14 hr
theorem zya(r:zqa)(hr:zHa=some r):Run prog 24 [] (.agg [.i r.Code,.i r.Index]):=by
 unfold zHa at hr;refine rfx (fn:=f24) func24 fun g0 hg=>?_
 exact kx tk 12 hr
theorem wAa(a0:List zga)(r:List zga)(hr:z8a a0=some r):Run prog 61 [.l zga.pc a0] (.l zga.pc r):=by
 unfold z8a at hr;refine rfx (fn:=f61) func61 fun g0 hg=>?_
 refine rn tk 9 rfl ?_;refine wKa (d:=3) (F:=zga.pc) (l:=a0) rfl rfl rfl qVa (fun c1=>hO ?_) (hO ?_)
 .replace hr:=j6a c1 hr
  exact kx tk 10 hr
 replace hr:=j7a hr
 refine rn tk 7 rfl<|wo (yKa (k:=5) rfl qVa vXa) rfl<|rn tk 1 rfl ?_;obtain ⟨v2,h3,hr⟩:=zaa hr;refine wo (vra (k:=7) (F:=zga.pc) (xs:=a0) (lim:=4398046511104) 1002 rfl rfl rfl qVa vXa rfl rfl (fun _=>rfl) rfl rfl rfl h3) rfl<|rn tk 3 rfl ?_;refine yDa 1002 rfl (hC ?_);refine qTa (d:=2) (F:=zga.pc) (l:=v2) rfl rfl (hC ?_);exact kx tk 1 hr
theorem yBa(a0:zua)(r:zua)(hr:vya a0=some r):Run prog 35 [.agg (zN0 a0)] (.agg (zN0 r)):=by
 unfold vya at hr;refine rfx (fn:=f35) func35 fun g0 hg=>?_
 refine ctq tk 11 hr [1,2] [1] (fun j1=>[(6,.l zba.pc j1)]) (fun _=>[(2,.cells [.s (([]:Str)),.l zba.pc ([]),.s (([]:Str)),.l zga.pc ([]),.l cU ([])])]) (fun j1 hr jump1=>?_) (fun j1 hr=>?_)
 .refine iq tk 0 100000 [1,2] (fn:=f60) ⟨func60,rfl,by kernel_rfl⟩ fun T1 ds1=>?_
  refine rn tk 9 rfl ?_;refine wKa (d:=3) (F:=zba.pc) (l:=a0.Envelope.To) rfl rfl rfl zha (fun c2=>hO ?_) (hO ?_)
  .replace hr:=j6a c2 hr
   refine ieq tk 10 ?_;cases hr;exact jump1 _ _ rfl rfl
  replace hr:=j7a hr
  refine rn tk 7 rfl<|wo (yKa (k:=5) rfl zha zxa) rfl<|rn tk 1 rfl ?_;obtain ⟨v3,h4,hr⟩:=zaa hr;refine wo (vra (k:=7) (F:=zba.pc) (xs:=a0.Envelope.To) (lim:=5864062014805) 1002 rfl rfl rfl zha zxa rfl rfl (fun _=>rfl) rfl rfl rfl h4) rfl<|rn tk 3 rfl ?_;refine yDa 1002 rfl (hC ?_);refine qTa (d:=2) (F:=zba.pc) (l:=v3) rfl rfl (hC ?_);refine ieq tk 1 ?_;cases hr;exact jump1 _ _ rfl rfl
 refine rn tk 6 rfl ?_;obtain ⟨v5,h6,hr⟩:=zaa hr;refine dq tk 0 7 [] [(3,.l zga.pc v5)] .nil (.cons rfl rfl (zVa (wAa a0.Message.Fields v5 h6) rfl) .nil) ?_ mixed;refine ctq tk 0 hr [1,2,12] [2,1] (fun j7=>[(16,.l cU j7)]) (fun _=>[]) (fun j7 hr jump2=>?_) (fun j7 hr=>?_)
 .refine iq tk 0 200000 [1,2,12] (fn:=f62) ⟨func62,rfl,by kernel_rfl⟩ fun T2 ds2=>?_
  refine rn tk 9 rfl ?_;refine wKa (d:=3) (F:=cU) (l:=a0.Message.Body) rfl rfl rfl zja (fun c8=>hO ?_) (hO ?_)
  .replace hr:=j6a c8 hr
   refine ieq tk 10 ?_;cases hr;exact jump2 _ _ rfl rfl
  replace hr:=j7a hr
  refine rn tk 7 rfl<|wo (yKa (k:=5) rfl zja zCa) rfl<|rn tk 1 rfl ?_;obtain ⟨v9,h10,hr⟩:=zaa hr;refine wo (vra (k:=7) (F:=cU) (xs:=a0.Message.Body) (lim:=140737488355328) 1002 rfl rfl rfl zja zCa rfl rfl (fun _=>rfl) rfl rfl rfl h10) rfl<|rn tk 3 rfl ?_;refine yDa 1002 rfl (hC ?_);refine qTa (d:=2) (F:=cU) (l:=v9) rfl rfl (hC ?_);refine ieq tk 1 ?_;cases hr;exact jump2 _ _ rfl rfl
 exact kx tk 12 hr
theorem yia(a0:zca)(a1:Int)(r:zca)(hr:kAa a0 a1=some r):RunS prog 76 [.ptr 90000000 0,.i a1] (zca.sto a0) (.tup []) (zca.sto r) 90000000 [90000012,90000015]:=by
 unfold kAa at hr;refine rfS (fn:=f76) (H:=90000999) (.ptr 90000000 0) ⟨func76,rfl,by kernel_rfl⟩ rfl (hasT rfl) (.inl ⟨rfl,rfl⟩) rfl rfl rfl rfl fun g0 hg S sg T=>?_
 refine rn tk 7 rfl<|wnh tk rfl rfl rfl rfl ?_;refine aq1 tk 4 hr [0,1,10,11] [90000999] (fun s1=>[(12,.i s1.1)]) (fun s1=>zca.sto s1.2) (.exit 0) [] [90000999] (fun _=>[]) (fun b2=>zca.sto b2) (fun s1 x3 hr=>?_) (fun b2 hr=>?_)
 .unfold z3a at hr;refine ax tk 6 13 hr (fun hr=>?_) fun hr=>?_
  .refine jq tk 2 hr [0,1,10,11,12] [90000999] (fun _=>[]) (fun j5=>zca.sto j5) (fun j5 hr=>?_) (fun j5 hr=>?_)
   .refine rn tk 4 rfl ?_;obtain ⟨v6,h7,hr⟩:=zaa hr;refine wih tk h7 rfl rfl rfl rfl rfl ?_;obtain ⟨v8,h9,hr⟩:=zaa hr;refine wq (VJa (F:=cI) (l:=s1.2.Client.Results) (n:=s1.1) (j:=0) rfl rfl kQa rfl h9 rfl) rfl rfl rfl ?_;refine ax tk 10 18 hr (fun hr=>?_) fun hr=>?_
    .refine rn tk 8 rfl ?_;obtain ⟨v11,h12,hr⟩:=zaa hr;refine wih tk h12 rfl rfl rfl rfl rfl ?_;obtain ⟨v13,h14,hr⟩:=zaa hr;refine wo (Z1a (F:=cI) (l:=s1.2.Client.Results) (n:=s1.1) (j:=0) (v:=v13) (v' :=a1) (pcs:=[pI a1]) rfl rfl rfl kQa rfl h14 rfl rfl) rfl ?_;exact jx tk 2 hr
    exact jx tk 2 hr
   exact cx tk 4 hr
  exact ox tk 2 hr
 exact sxx tk 1 hr
theorem yja(a0:zca)(r:zca)(hr:k7a a0=some r):RunS prog 44 [.ptr 90000000 0] (zca.sto a0) (.tup []) (zca.sto r) 90000000 [90000012,90000015]:=by
 unfold k7a at hr;refine rfS (fn:=f44) (H:=90000999) (.ptr 90000000 0) ⟨func44,rfl,by kernel_rfl⟩ rfl (hasT rfl) (.inl ⟨rfl,rfl⟩) rfl rfl rfl rfl fun g0 hg S sg T=>?_
 refine jq tk 5 hr [0] [90000999,90000000,90000012,90000015] (fun j1=>[(2,.i j1)]) (fun _=>[]) (fun j1 hr=>?_) (fun j1 hr=>?_)
 .refine ax tk 9 7 hr (fun hr=>?_) fun hr=>?_
  .exact jx tk 3 hr
  exact jx tk 1 hr
 refine csx tk 4 hr (yia a0 j1) fun v3 _ hr=>?_
 exact sxx tk 9 hr
theorem K9a(a0:List UInt8)(a1:List UInt8)(r:Bool)(hr:vua a0 a1=some r):Run prog 139 [.l cU a0,.l cU a1] (.bo r):=by
 unfold vua at hr;refine rfx (fn:=f139) func139 fun g0 hg=>?_
 refine rn tk 8 rfl<|wb tk rfl rfl rfl<|rn tk 1 rfl<|wb tk rfl rfl rfl ?_;exact kx tk 5 hr
theorem vAa(a0:List UInt8)(a1:List UInt8)(r:Bool)(hr:zZa a0 a1=some r):Run prog 104 [.l cU a0,.l cU a1] (.bo r):=by
 unfold zZa at hr;refine rfx (fn:=Tryz.f104) func104 fun g0 hg=>?_
 refine jq tk 5 hr [] [] (fun j1=>[(4,.bo j1)]) (fun _=>[]) (fun j1 hr=>?_) (fun j1 hr=>?_)
 .refine rn tk 2 rfl<|wn tk rfl rfl rfl<|rn tk 1 rfl<|wn tk rfl rfl rfl ?_;refine bx tk 2 10 hr (fun c2 hr=>?_) fun c2 hr=>?_
  .refine rn tk 2 rfl<|ug rfl rfl rfl<|wn tk rfl rfl rfl<|rn tk 1 rfl<|ug rfl rfl rfl<|wn tk rfl rfl rfl<|rn tk 1 rfl ?_;obtain ⟨v3,h4,hr⟩:=zaa hr;refine ug rfl rfl rfl<|wlL tk h4 rfl rfl rfl (fun _=>rfl) rfl<|rn tk 1 rfl ?_;obtain ⟨v5,h6,hr⟩:=zaa hr;refine ug rfl rfl rfl<|cl (K9a _ _ _ h6) rfl rfl ?_;exact jx tk 3 hr
  exact jx tk 12 hr
 exact kx tk 1 hr
theorem qub(a0:Str)(r:Bool)(hr:KLa a0=some r):Run prog 203 [.s a0] (.bo r):=by
 unfold KLa at hr;refine rfx (fn:=f203) func203 fun g0 hg=>?_
 refine jq tk 5 hr [] [] (fun j1=>[(2,.bo j1)]) (fun _=>[]) (fun j1 hr=>?_) (fun j1 hr=>?_)
 .refine bx tk 4 5 hr (fun c2 hr=>?_) fun c2 hr=>?_
  .refine bx tk 5 10 hr (fun c3 hr=>?_) fun c3 hr=>?_
   .refine rn tk 1 rfl<|ug rfl rfl rfl ?_;refine ctq tk 0 hr [10] [] (fun j4=>[(12,.bo j4)]) (fun _=>[]) (fun j4 hr jump4=>?_) (fun j4 hr=>?_)
    .refine iq tk 0 400000 [10] (fn:=f94) ⟨func94,rfl,by kernel_rfl⟩ fun T4 ds4=>?_
     refine aq2 tk 14 hr [0,1,7] [499999,400010] (fun s5=>[(8,.i s5)]) (fun _=>[]) (.exit 0) [] [499999,400010] (fun _=>[]) (fun _=>[]) .ret [4] [499999,400010] (fun _=>[]) (fun _=>[]) (fun s5 x9 hr=>?_) (fun b6 hr=>?_) (fun b7 hr=>?_)
     .unfold yLa at hr;refine ax tk 6 9 hr (fun hr=>?_) fun hr=>?_
      .refine rn tk 15 rfl ?_;obtain ⟨v11,h12,hr⟩:=zaa hr;refine ws tk h12 rfl rfl rfl rfl ?_;refine iq tk 0 600000 [0,1,7,8] (fn:=Tryz.f235) ⟨func235,rfl,by kernel_rfl⟩ fun T6 ds6=>?_
       refine jq tk 5 hr [] [699999,600000,600001,600007,600008,499999,400010] (fun j13=>[(2,.bo j13)]) (fun _=>[]) (fun j13 hr=>?_) (fun j13 hr=>?_)
       .refine bx tk 4 5 hr (fun c14 hr=>?_) fun c14 hr=>?_
        .refine bx tk 4 9 hr (fun c15 hr=>?_) fun c15 hr=>?_
         .exact jx tk 5 hr
         exact jx tk 5 hr
        exact jx tk 9 hr
       refine ieq tk 1 (hO ?_);refine ax tk 3 16 hr (fun hr=>?_) fun hr=>?_
       .exact ox tk 8 hr
       exact cx tk 7 hr
      exact ox tk 2 hr
     .refine ieq tk 8 ?_;cases hr;exact jump4 _ _ rfl rfl
     refine ieq tk 2 ?_;cases hr;exact jump4 _ _ rfl rfl
    exact jx tk 3 hr
   exact jx tk 5 hr
  exact jx tk 10 hr
 exact kx tk 1 hr
theorem v5a(a0:UInt8)(r:Bool)(hr:vwa a0=some r):Run prog 226 [.u8 a0] (.bo r):=by
 unfold vwa at hr;refine rfx (fn:=Tryz.f226) func226 fun g0 hg=>?_
 refine jq tk 5 hr [] [] (fun j1=>[(2,.bo j1)]) (fun _=>[]) (fun j1 hr=>?_) (fun j1 hr=>?_)
 .refine bx tk 4 5 hr (fun c2 hr=>?_) fun c2 hr=>?_
  .exact jx tk 5 hr
  exact jx tk 5 hr
 exact kx tk 1 hr
theorem zjb(a0:Str)(a1:Int)(r:Int)(hr:ZEa a0 a1=some r):Run prog 205 [.s a0,.i a1] (.i r):=by
 unfold ZEa at hr;refine rfx (fn:=Tryz.f205) func205 fun g0 hg=>?_
 refine rn tk 14 rfl<|wq (ev_max rfl rfl) rfl rfl rfl ?_;refine aq1 tk 4 hr [0] [] (fun s1=>[(5,.i s1.1),(6,.i s1.2)]) (fun _=>[]) (.exit 0) [] [] (fun b2=>[(5,.i b2)]) (fun _=>[]) (fun s1 x3 hr=>?_) (fun b2 hr=>?_)
 .unfold jfa at hr;refine ax tk 9 12 hr (fun hr=>?_) fun hr=>?_
  .refine jkq tk 2 [0,6] [] (fun j5=>[(5,.i j5)]) (fun _=>[]) (fun j5=>vxa s1 j5=some x3) ?_ ?_
   .refine jq tk 2 hr [0,5,6] [] (fun j6=>[(26,.bo j6)]) (fun _=>[]) (fun j6 hr=>?_) (fun j6 hr=>?_)
    .refine rn tk 3 rfl ?_;obtain ⟨v7,h8,hr⟩:=zaa hr;refine ws tk h8 rfl rfl rfl rfl ?_;refine clx tk 0 hr (v5a _) fun v9 _ hr=>?_
     refine bx tk 2 20 hr (fun c11 hr=>?_) fun c11 hr=>?_
     .exact jx tk 7 hr
     refine rn tk 3 rfl ?_;obtain ⟨v12,h13,hr⟩:=zaa hr;refine ug rfl rfl rfl<|ws tk h13 rfl rfl rfl rfl ?_;obtain ⟨v14,h15,hr⟩:=zaa hr;refine ug rfl rfl rfl<|cl (v5a _ _ h15) rfl rfl ?_;exact jx tk 2 hr
    refine ax tk 0 26 hr (fun hr=>?_) fun hr=>?_
    .refine rn tk 3 rfl<|jn s1.1 hr rfl rfl
    refine jq tk 3 hr [0,5,6] [] (fun j17=>[(32,.bo j17)]) (fun _=>[]) (fun j17 hr=>?_) (fun j17 hr=>?_)
    .refine bx tk 4 29 hr (fun c18 hr=>?_) fun c18 hr=>?_
     .exact jx tk 4 hr
     exact jx tk 4 hr
    refine ax tk 0 32 hr (fun hr=>?_) fun hr=>?_
    .exact ox tk 4 hr
    refine rn tk 7 rfl<|jn s1.2 hr rfl rfl
   intro j5 hr;unfold vxa at hr;exact cx tk 5 hr
  exact ox tk 2 hr
 exact kx tk 9 hr
end Go.Proofs.YtjjgjalfelnclaaGreatDoor
namespace Go.Proofs
open Go.Shelf
def Tryz.lays156_ren:Go.Shelf.Ren:=⟨fun | 156=>264 | 165=>275 | 166=>276 | 169=>277 | 240=>289 | 241=>290 | 276=>297 | 277=>298 | n=>n,fun | 31=>56 | 9=>9 | 3=>3 | 4=>4 | 0=>0 | 20=>20 | 72=>298 | 76=>211 | 70=>296 | 37=>26 | 75=>210 | 127=>301 | 164=>338 | 5=>5 | 80=>299 | n=>n,fun | n=>n⟩
theorem Tryz.cqz{α:Type}{a:Option α}{x y:α}(h:a=some x)(e:x=y):a=some y:=h.trans (congrArg some e)
theorem Tryz.lays156:Go.Proofs.Lays.n156 prog Tryz.lays156_ren:=⟨by kernel_rfl,cqz func264 (by kernel_rfl),cqz func275 (by kernel_rfl),cqz func276 (by kernel_rfl),cqz func277 (by kernel_rfl),cqz func289 (by kernel_rfl),cqz func290 (by kernel_rfl),cqz func297 (by kernel_rfl),cqz func298 (by kernel_rfl),underlying0,isAgg0,sizeOf0,zeroValue0,underlying3,isAgg3,sizeOf3,zeroValue3,underlying4,isAgg4,sizeOf4,zeroValue4,underlying9,isAgg9,sizeOf9,zeroValue9,underlying20,isAgg20,sizeOf20,zeroValue20,underlying56,isAgg56,sizeOf56,zeroValue56,underlying26,isAgg26,sizeOf26,zeroValue26,underlying296,isAgg296,sizeOf296,zeroValue296,underlying298,isAgg298,sizeOf298,zeroValue298,underlying210,isAgg210,sizeOf210,zeroValue210,underlying211,isAgg211,sizeOf211,zeroValue211,underlying301,isAgg301,sizeOf301,zeroValue301,underlying338,isAgg338,sizeOf338,zeroValue338⟩
theorem Tryz.Builder_Extra_156:Builder.Extra prog Tryz.lays156_ren:={
 sizeBuilder:=by kernel_rfl
 liesBuilder:=by kernel_rfl
 t5:=underlying5
 a5:=isAgg5
 z5:=sizeOf5
 v5:=zeroValue5
 infoByte:=by kernel_rfl
 cellsByte:=by kernel_rfl
 sizeByte:=by kernel_rfl
 neB5:=by decide}
open Go.RowKit in
theorem Tryz.strings_Join_none(a:Option Addr)(c:Nat)(sep:ByteArray)(w:World):
 Calls prog 264 #[.slice a 0 c,.string sep] w fun e w' =>e=.returned (.string ⟨#[]⟩)/\w' =w:=Any.strings_Join_none Tryz.lays156 Tryz.Builder_Extra_156 a c sep w
open Go.RowKit in
theorem Tryz.strings_Join(bk o c:Nat)(xs:List ByteArray)(sep:ByteArray)(w:World)(hcells:∀(j:Nat) x,xs[j]? =some x->w.cell? ⟨bk,o+j,none⟩=some (.string x))(hbk:bk < w.heap.size)(hN:xs.length<=140737488355328)(hcap:xs.length<=c)(hlen:(Lib.join (xs.map (·.data.toList)) sep.data.toList).length<=140737488355328):
 Calls prog 264 #[.slice (some ⟨bk,o,none⟩) xs.length c,.string sep] w fun e w' =>e=.returned (.string ⟨(Lib.join (xs.map (·.data.toList)) sep.data.toList).toArray⟩)/\Below w.heap.size w w' :=Any.strings_Join Tryz.lays156 Tryz.Builder_Extra_156 bk o c xs sep w hcells hbk hN hcap hlen
def Tryz.lays162_ren:Go.Shelf.Ren:=⟨fun | 162=>251 | 232=>254 | 227=>175 | 234=>256 | 236=>258 | 228=>176 | 271=>271 | 151=>270 | 120=>282 | 197=>269 | 152=>173 | 260=>281 | 137=>191 | 119=>206 | 224=>142 | 225=>207 | 217=>220 | 266=>246 | n=>n,fun | 9=>9 | 4=>4 | 3=>3 | 5=>5 | 117=>198 | 116=>197 | 0=>0 | 124=>233 | 21=>21 | 105=>291 | 46=>169 | 119=>314 | 139=>323 | 138=>322 | n=>n,fun | 3=>6 | 4=>7 | n=>n⟩
theorem Tryz.lays162:Go.Proofs.Lays.n162 prog Tryz.lays162_ren:=⟨by kernel_rfl,cqz func206 (by kernel_rfl),cqz func282 (by kernel_rfl),cqz func191 (by kernel_rfl),cqz func270 (by kernel_rfl),cqz func173 (by kernel_rfl),cqz func251 (by kernel_rfl),cqz func269 (by kernel_rfl),cqz func220 (by kernel_rfl),cqz func142 (by kernel_rfl),cqz func207 (by kernel_rfl),cqz func175 (by kernel_rfl),cqz func176 (by kernel_rfl),cqz func254 (by kernel_rfl),cqz func256 (by kernel_rfl),cqz func258 (by kernel_rfl),cqz func281 (by kernel_rfl),cqz func246 (by kernel_rfl),cqz func271 (by kernel_rfl),underlying0,isAgg0,sizeOf0,zeroValue0,underlying3,isAgg3,sizeOf3,zeroValue3,underlying4,isAgg4,sizeOf4,zeroValue4,underlying5,isAgg5,sizeOf5,zeroValue5,underlying9,isAgg9,sizeOf9,zeroValue9,underlying21,isAgg21,sizeOf21,zeroValue21,underlying169,isAgg169,sizeOf169,zeroValue169,underlying291,isAgg291,sizeOf291,zeroValue291,underlying197,isAgg197,sizeOf197,underlying198,isAgg198,sizeOf198,zeroValue198,underlying314,isAgg314,sizeOf314,underlying233,isAgg233,sizeOf233,zeroValue233,underlying322,isAgg322,sizeOf322,zeroValue322,underlying323,isAgg323,sizeOf323,zeroValue323,by kernel_rfl,by kernel_rfl⟩
def Tryz.lays160_ren:Go.Shelf.Ren:=⟨fun | 160=>229 | 232=>254 | 231=>253 | 227=>175 | 234=>256 | 233=>255 | 236=>258 | 235=>257 | 228=>176 | 271=>271 | 151=>270 | 197=>269 | 120=>282 | 152=>173 | 260=>281 | 137=>191 | 119=>206 | 224=>142 | 225=>207 | 217=>220 | 266=>246 | n=>n,fun | 9=>9 | 4=>4 | 3=>3 | 5=>5 | 117=>198 | 116=>197 | 0=>0 | 124=>233 | 21=>21 | 105=>291 | 46=>169 | 119=>314 | 139=>323 | 138=>322 | n=>n,fun | 3=>6 | 4=>7 | n=>n⟩
theorem Tryz.lays160:Go.Proofs.Lays.n160 prog Tryz.lays160_ren:=⟨by kernel_rfl,cqz func206 (by kernel_rfl),cqz func282 (by kernel_rfl),cqz func191 (by kernel_rfl),cqz func270 (by kernel_rfl),cqz func173 (by kernel_rfl),cqz func229 (by kernel_rfl),cqz func269 (by kernel_rfl),cqz func220 (by kernel_rfl),cqz func142 (by kernel_rfl),cqz func207 (by kernel_rfl),cqz func175 (by kernel_rfl),cqz func176 (by kernel_rfl),cqz func253 (by kernel_rfl),cqz func254 (by kernel_rfl),cqz func255 (by kernel_rfl),cqz func256 (by kernel_rfl),cqz func257 (by kernel_rfl),cqz func258 (by kernel_rfl),cqz func281 (by kernel_rfl),cqz func246 (by kernel_rfl),cqz func271 (by kernel_rfl),underlying0,isAgg0,sizeOf0,zeroValue0,underlying3,isAgg3,sizeOf3,zeroValue3,underlying4,isAgg4,sizeOf4,zeroValue4,underlying5,isAgg5,sizeOf5,zeroValue5,underlying9,isAgg9,sizeOf9,zeroValue9,underlying21,isAgg21,sizeOf21,zeroValue21,underlying169,isAgg169,sizeOf169,zeroValue169,underlying291,isAgg291,sizeOf291,zeroValue291,underlying197,isAgg197,sizeOf197,underlying198,isAgg198,sizeOf198,zeroValue198,underlying314,isAgg314,sizeOf314,underlying233,isAgg233,sizeOf233,zeroValue233,underlying322,isAgg322,sizeOf322,zeroValue322,underlying323,isAgg323,sizeOf323,zeroValue323,by kernel_rfl,by kernel_rfl⟩
def Tryz.lays137_ren:Go.Shelf.Ren:=⟨fun | 137=>191 | 217=>220 | 266=>246 | n=>n,fun | 9=>9 | 5=>5 | 3=>3 | n=>n,fun | n=>n⟩
theorem Tryz.lays137:Go.Proofs.Lays.n137 prog Tryz.lays137_ren:=⟨by kernel_rfl,cqz func191 (by kernel_rfl),cqz func220 (by kernel_rfl),cqz func246 (by kernel_rfl),underlying3,isAgg3,sizeOf3,zeroValue3,underlying5,isAgg5,sizeOf5,zeroValue5,underlying9,isAgg9,sizeOf9,zeroValue9⟩
open Go.RowKit in
theorem Tryz.strings_IndexByte(s:ByteArray)(c:Int)(w:World):
 Calls prog 191 #[.string s,.int .u8 c] w fun e w' =>e=.returned (.int .i64 (Lib.indexByte s.data.toList c.toNat.toUInt8))/\w' =w:=Any.strings_IndexByte Tryz.lays137 s c w
def Tryz.lays103_ren:Go.Shelf.Ren:=⟨fun | 103=>231 | 210=>261 | 206=>247 | n=>n,fun | 9=>9 | 4=>4 | 24=>159 | 3=>3 | n=>n,fun | n=>n⟩
theorem Tryz.lays103:Go.Proofs.Lays.n103 prog Tryz.lays103_ren:=⟨by kernel_rfl,cqz func231 (by kernel_rfl),cqz func247 (by kernel_rfl),cqz func261 (by kernel_rfl),underlying3,isAgg3,sizeOf3,zeroValue3,underlying4,isAgg4,sizeOf4,zeroValue4,underlying9,isAgg9,sizeOf9,zeroValue9,underlying159,isAgg159,sizeOf159,zeroValue159⟩
open Go.RowKit in
theorem Tryz.strings_CutPrefix(s p:ByteArray)(w:World):
 Calls prog 231 #[.string s,.string p] w fun e w' =>e=.returned (.tuple #[.string ⟨(Lib.trimPrefix s.data.toList p.data.toList).toArray⟩,.bool (Lib.hasPrefix s.data.toList p.data.toList)])/\w' =w:=Any.strings_CutPrefix Tryz.lays103 s p w
def Tryz.lays104_ren:Go.Shelf.Ren:=⟨fun | 104=>232 | 211=>262 | 207=>248 | n=>n,fun | 9=>9 | 4=>4 | 24=>159 | 3=>3 | n=>n,fun | n=>n⟩
theorem Tryz.lays104:Go.Proofs.Lays.n104 prog Tryz.lays104_ren:=⟨by kernel_rfl,cqz func232 (by kernel_rfl),cqz func248 (by kernel_rfl),cqz func262 (by kernel_rfl),underlying3,isAgg3,sizeOf3,zeroValue3,underlying4,isAgg4,sizeOf4,zeroValue4,underlying9,isAgg9,sizeOf9,zeroValue9,underlying159,isAgg159,sizeOf159,zeroValue159⟩
open Go.RowKit in
theorem Tryz.strings_CutSuffix(s p:ByteArray)(w:World)(hs:s.size<=9223372036854775807):
 Calls prog 232 #[.string s,.string p] w fun e w' =>e=.returned (.tuple #[.string ⟨(Lib.trimSuffix s.data.toList p.data.toList).toArray⟩,.bool (Lib.hasSuffix s.data.toList p.data.toList)])/\w' =w:=Any.strings_CutSuffix Tryz.lays104 s p w hs
def Tryz.lays172_ren:Go.Shelf.Ren:=⟨fun | 172=>184 | 244=>213 | 245=>214 | 247=>239 | 279=>240 | 280=>241 | 281=>242 | 282=>243 | 287=>265 | 316=>266 | 171=>64 | 205=>267 | 321=>278 | 322=>279 | 243=>101 | 246=>138 | 283=>177 | 284=>178 | 285=>179 | 286=>180 | 129=>209 | 317=>208 | 318=>210 | 319=>211 | 320=>212 | 337=>237 | 338=>238 | n=>n,fun | 9=>9 | 3=>3 | 75=>210 | 76=>211 | 4=>4 | 5=>5 | 167=>253 | 37=>26 | 0=>0 | 85=>254 | 2=>2 | 168=>256 | 53=>201 | 175=>286 | 46=>169 | 210=>289 | 127=>301 | 145=>304 | 143=>302 | 21=>21 | 171=>200 | 173=>204 | 212=>235 | 51=>206 | 20=>20 | 213=>236 | 232=>284 | 233=>285 | 80=>299 | n=>n,fun | 15=>4 | 16=>5 | 17=>1 | 18=>2 | 19=>3 | n=>n⟩
theorem Tryz.lays172:Go.Proofs.Lays.n172 prog Tryz.lays172_ren:=⟨by kernel_rfl,cqz func209 (by kernel_rfl),cqz func64 (by kernel_rfl),cqz func184 (by kernel_rfl),cqz func267 (by kernel_rfl),cqz func101 (by kernel_rfl),cqz func213 (by kernel_rfl),cqz func214 (by kernel_rfl),cqz func138 (by kernel_rfl),cqz func239 (by kernel_rfl),cqz func240 (by kernel_rfl),cqz func241 (by kernel_rfl),cqz func242 (by kernel_rfl),cqz func243 (by kernel_rfl),cqz func177 (by kernel_rfl),cqz func178 (by kernel_rfl),cqz func179 (by kernel_rfl),cqz func180 (by kernel_rfl),cqz func265 (by kernel_rfl),cqz func266 (by kernel_rfl),cqz func208 (by kernel_rfl),cqz func210 (by kernel_rfl),cqz func211 (by kernel_rfl),cqz func212 (by kernel_rfl),cqz func278 (by kernel_rfl),cqz func279 (by kernel_rfl),cqz func237 (by kernel_rfl),cqz func238 (by kernel_rfl),underlying0,isAgg0,sizeOf0,zeroValue0,underlying2,isAgg2,sizeOf2,zeroValue2,underlying3,isAgg3,sizeOf3,zeroValue3,underlying4,isAgg4,sizeOf4,zeroValue4,underlying5,isAgg5,sizeOf5,zeroValue5,underlying9,isAgg9,sizeOf9,zeroValue9,underlying20,isAgg20,sizeOf20,zeroValue20,underlying21,isAgg21,sizeOf21,zeroValue21,underlying26,isAgg26,sizeOf26,zeroValue26,underlying169,isAgg169,sizeOf169,zeroValue169,underlying206,isAgg206,sizeOf206,zeroValue206,underlying201,isAgg201,sizeOf201,zeroValue201,underlying210,isAgg210,sizeOf210,zeroValue210,underlying211,isAgg211,sizeOf211,zeroValue211,underlying254,isAgg254,sizeOf254,zeroValue254,underlying301,isAgg301,sizeOf301,zeroValue301,underlying302,isAgg302,sizeOf302,zeroValue302,underlying304,isAgg304,sizeOf304,zeroValue304,underlying253,isAgg253,sizeOf253,zeroValue253,underlying256,isAgg256,sizeOf256,zeroValue256,underlying200,isAgg200,sizeOf200,zeroValue200,underlying204,isAgg204,sizeOf204,zeroValue204,underlying286,isAgg286,sizeOf286,zeroValue286,underlying289,isAgg289,sizeOf289,zeroValue289,underlying235,isAgg235,sizeOf235,zeroValue235,underlying236,isAgg236,sizeOf236,underlying284,isAgg284,sizeOf284,zeroValue284,underlying285,isAgg285,sizeOf285,zeroValue285,by kernel_rfl,by kernel_rfl,by kernel_rfl,by kernel_rfl,by kernel_rfl⟩
open Go.RowKit in
theorem Tryz.strconv_Atoi(s:ByteArray)(n:Int)(hl:s.size<=18)(h:Lib.atoi s.data.toList=some n)(w:World):
 Calls prog 184 #[.string s] w fun e w' =>e=.returned (.tuple #[.int .i64 n,.nilIface])/\∃t,w' =Lib.bytesWorld w 5 t:=Any.strconv_Atoi Tryz.lays172 s n hl h w
def Tryz.laysM171_ren:Go.Shelf.Ren:=⟨fun | 171=>64 | 243=>101 | 246=>138 | 283=>177 | 284=>178 | 285=>179 | 286=>180 | 129=>209 | 317=>208 | 318=>210 | 319=>211 | 320=>212 | 337=>237 | 338=>238 | n=>n,fun | 3=>3 | 9=>9 | 2=>2 | 4=>4 | 171=>200 | 0=>0 | 53=>201 | 37=>26 | 5=>5 | 173=>204 | 212=>235 | 51=>206 | 20=>20 | 213=>236 | 46=>169 | 232=>284 | 233=>285 | n=>n,fun | 17=>1 | 18=>2 | 19=>3 | n=>n⟩
theorem Tryz.laysM171:Go.Proofs.LaysM.n171 prog Tryz.laysM171_ren:={mixed:=by kernel_rfl,f129:=cqz func209 (by kernel_rfl),f171:=cqz func64 (by kernel_rfl),f243:=cqz func101 (by kernel_rfl),f246:=cqz func138 (by kernel_rfl),f283:=cqz func177 (by kernel_rfl),f284:=cqz func178 (by kernel_rfl),f285:=cqz func179 (by kernel_rfl),f286:=cqz func180 (by kernel_rfl),f317:=cqz func208 (by kernel_rfl),f318:=cqz func210 (by kernel_rfl),f319:=cqz func211 (by kernel_rfl),f320:=cqz func212 (by kernel_rfl),f337:=cqz func237 (by kernel_rfl),f338:=cqz func238 (by kernel_rfl),t0:=underlying0,a0:=isAgg0,z0:=sizeOf0,v0:=zeroValue0,t2:=underlying2,a2:=isAgg2,z2:=sizeOf2,v2:=zeroValue2,t3:=underlying3,a3:=isAgg3,z3:=sizeOf3,v3:=zeroValue3,t4:=underlying4,a4:=isAgg4,z4:=sizeOf4,v4:=zeroValue4,t5:=underlying5,a5:=isAgg5,z5:=sizeOf5,v5:=zeroValue5,t9:=underlying9,a9:=isAgg9,z9:=sizeOf9,v9:=zeroValue9,t20:=underlying20,a20:=isAgg20,z20:=sizeOf20,v20:=zeroValue20,t37:=underlying26,a37:=isAgg26,z37:=sizeOf26,v37:=zeroValue26,t46:=underlying169,a46:=isAgg169,z46:=sizeOf169,v46:=zeroValue169,t51:=underlying206,a51:=isAgg206,z51:=sizeOf206,v51:=zeroValue206,t53:=underlying201,a53:=isAgg201,z53:=sizeOf201,v53:=zeroValue201,t171:=underlying200,a171:=isAgg200,z171:=sizeOf200,v171:=zeroValue200,t173:=underlying204,a173:=isAgg204,z173:=sizeOf204,v173:=zeroValue204,t212:=underlying235,a212:=isAgg235,z212:=sizeOf235,v212:=zeroValue235,t213:=underlying236,a213:=isAgg236,z213:=sizeOf236,t232:=underlying284,a232:=isAgg284,z232:=sizeOf284,v232:=zeroValue284,t233:=underlying285,a233:=isAgg285,z233:=sizeOf285,v233:=zeroValue285,g17:=by kernel_rfl,g18:=by kernel_rfl,g19:=by kernel_rfl,i0:=by kernel_rfl,i2:=by kernel_rfl,i3:=by kernel_rfl,i4:=by kernel_rfl,i5:=by kernel_rfl,i9:=by kernel_rfl,i20:=by kernel_rfl,i37:=by kernel_rfl,i46:=by kernel_rfl,i51:=by kernel_rfl,i53:=by kernel_rfl,i171:=by kernel_rfl,i173:=by kernel_rfl,i212:=by kernel_rfl,i232:=by kernel_rfl,i233:=by kernel_rfl,m17:=by kernel_rfl,m18:=by kernel_rfl,m19:=by kernel_rfl}
open Go.RowKit Go.Sort Go.Lib in
theorem Tryz.strconv_Itoa (n : Int) (h0 : -9223372036854775808 <= n) (h1 : n <= 9223372036854775807) (w : World) (htab : Lib.TabIs prog w "internal/strconv.uint64pow10" .u64 Lib.pow10Tab) :
 Calls prog 64 #[.int .i64 n] w fun e w' =>e=.returned (.string ⟨(Lib.itoa n).toArray⟩)/\∃k os,w' =grow (w.drewN k) os:=Any.strconv_Itoa Tryz.laysM171 n h0 h1 w htab
def Tryz.laysC172_ren:Go.Shelf.Ren:=⟨fun | 172=>184 | 244=>213 | 245=>214 | 247=>239 | 279=>240 | 280=>241 | 281=>242 | 282=>243 | 287=>265 | 316=>266 | 171=>64 | 205=>267 | 321=>278 | 322=>279 | 243=>101 | 246=>138 | 283=>177 | 284=>178 | 285=>179 | 286=>180 | 129=>209 | 317=>208 | 318=>210 | 319=>211 | 320=>212 | 337=>237 | 338=>238 | n=>n,fun | 9=>9 | 3=>3 | 75=>210 | 76=>211 | 4=>4 | 5=>5 | 167=>253 | 37=>26 | 0=>0 | 85=>254 | 2=>2 | 168=>256 | 53=>201 | 175=>286 | 46=>169 | 210=>289 | 127=>301 | 145=>304 | 143=>302 | 21=>21 | 171=>200 | 173=>204 | 212=>235 | 51=>206 | 20=>20 | 213=>236 | 232=>284 | 233=>285 | 80=>299 | n=>n,fun | 15=>4 | 16=>5 | 17=>1 | 18=>2 | 19=>3 | n=>n⟩
theorem Tryz.laysC172:Go.Proofs.LaysC.n172 prog Tryz.laysC172_ren:={mixed:=by kernel_rfl,f129:=cqz func209 (by kernel_rfl),f171:=cqz func64 (by kernel_rfl),f172:=cqz func184 (by kernel_rfl),f205:=cqz func267 (by kernel_rfl),f243:=cqz func101 (by kernel_rfl),f244:=cqz func213 (by kernel_rfl),f245:=cqz func214 (by kernel_rfl),f246:=cqz func138 (by kernel_rfl),f247:=cqz func239 (by kernel_rfl),f279:=cqz func240 (by kernel_rfl),f280:=cqz func241 (by kernel_rfl),f281:=cqz func242 (by kernel_rfl),f282:=cqz func243 (by kernel_rfl),f283:=cqz func177 (by kernel_rfl),f284:=cqz func178 (by kernel_rfl),f285:=cqz func179 (by kernel_rfl),f286:=cqz func180 (by kernel_rfl),f287:=cqz func265 (by kernel_rfl),f316:=cqz func266 (by kernel_rfl),f317:=cqz func208 (by kernel_rfl),f318:=cqz func210 (by kernel_rfl),f319:=cqz func211 (by kernel_rfl),f320:=cqz func212 (by kernel_rfl),f321:=cqz func278 (by kernel_rfl),f322:=cqz func279 (by kernel_rfl),f337:=cqz func237 (by kernel_rfl),f338:=cqz func238 (by kernel_rfl),t0:=underlying0,a0:=isAgg0,z0:=sizeOf0,v0:=zeroValue0,t2:=underlying2,a2:=isAgg2,z2:=sizeOf2,v2:=zeroValue2,t3:=underlying3,a3:=isAgg3,z3:=sizeOf3,v3:=zeroValue3,t4:=underlying4,a4:=isAgg4,z4:=sizeOf4,v4:=zeroValue4,t5:=underlying5,a5:=isAgg5,z5:=sizeOf5,v5:=zeroValue5,t9:=underlying9,a9:=isAgg9,z9:=sizeOf9,v9:=zeroValue9,t20:=underlying20,a20:=isAgg20,z20:=sizeOf20,v20:=zeroValue20,t21:=underlying21,a21:=isAgg21,z21:=sizeOf21,v21:=zeroValue21,t37:=underlying26,a37:=isAgg26,z37:=sizeOf26,v37:=zeroValue26,t46:=underlying169,a46:=isAgg169,z46:=sizeOf169,v46:=zeroValue169,t51:=underlying206,a51:=isAgg206,z51:=sizeOf206,v51:=zeroValue206,t53:=underlying201,a53:=isAgg201,z53:=sizeOf201,v53:=zeroValue201,t75:=underlying210,a75:=isAgg210,z75:=sizeOf210,v75:=zeroValue210,t76:=underlying211,a76:=isAgg211,z76:=sizeOf211,v76:=zeroValue211,t85:=underlying254,a85:=isAgg254,z85:=sizeOf254,v85:=zeroValue254,t127:=underlying301,a127:=isAgg301,z127:=sizeOf301,v127:=zeroValue301,t143:=underlying302,a143:=isAgg302,z143:=sizeOf302,v143:=zeroValue302,t145:=underlying304,a145:=isAgg304,z145:=sizeOf304,v145:=zeroValue304,t167:=underlying253,a167:=isAgg253,z167:=sizeOf253,v167:=zeroValue253,t168:=underlying256,a168:=isAgg256,z168:=sizeOf256,v168:=zeroValue256,t171:=underlying200,a171:=isAgg200,z171:=sizeOf200,v171:=zeroValue200,t173:=underlying204,a173:=isAgg204,z173:=sizeOf204,v173:=zeroValue204,t175:=underlying286,a175:=isAgg286,z175:=sizeOf286,v175:=zeroValue286,t210:=underlying289,a210:=isAgg289,z210:=sizeOf289,v210:=zeroValue289,t212:=underlying235,a212:=isAgg235,z212:=sizeOf235,v212:=zeroValue235,t213:=underlying236,a213:=isAgg236,z213:=sizeOf236,t232:=underlying284,a232:=isAgg284,z232:=sizeOf284,v232:=zeroValue284,t233:=underlying285,a233:=isAgg285,z233:=sizeOf285,v233:=zeroValue285,g15:=by kernel_rfl,g16:=by kernel_rfl,g17:=by kernel_rfl,g18:=by kernel_rfl,g19:=by kernel_rfl,t80:=underlying299,a80:=isAgg299,z80:=sizeOf299,v80:=zeroValue299,i0:=by kernel_rfl,i2:=by kernel_rfl,i3:=by kernel_rfl,i4:=by kernel_rfl,i5:=by kernel_rfl,i9:=by kernel_rfl,i20:=by kernel_rfl,i21:=by kernel_rfl,i37:=by kernel_rfl,i46:=by kernel_rfl,i51:=by kernel_rfl,i53:=by kernel_rfl,i75:=by kernel_rfl,i76:=by kernel_rfl,i80:=by kernel_rfl,i85:=by kernel_rfl,i127:=by kernel_rfl,i143:=by kernel_rfl,i145:=by kernel_rfl,i167:=by kernel_rfl,i168:=by kernel_rfl,i171:=by kernel_rfl,i173:=by kernel_rfl,i175:=by kernel_rfl,i210:=by kernel_rfl,i212:=by kernel_rfl,i232:=by kernel_rfl,i233:=by kernel_rfl,m15:=by kernel_rfl,m16:=by kernel_rfl,m17:=by kernel_rfl,m18:=by kernel_rfl,m19:=by kernel_rfl,c0:=by kernel_rfl,c2:=by kernel_rfl,c3:=by kernel_rfl,c4:=by kernel_rfl,c5:=by kernel_rfl,c9:=by kernel_rfl,c20:=by kernel_rfl,c21:=by kernel_rfl,c37:=by kernel_rfl,c46:=by kernel_rfl,c51:=by kernel_rfl,c53:=by kernel_rfl,c75:=by kernel_rfl,c76:=by kernel_rfl,c80:=by kernel_rfl,c85:=by kernel_rfl,c127:=by kernel_rfl,c143:=by kernel_rfl,c145:=by kernel_rfl,c167:=by kernel_rfl,c168:=by kernel_rfl,c171:=by kernel_rfl,c173:=by kernel_rfl,c175:=by kernel_rfl,c210:=by kernel_rfl,c212:=by kernel_rfl,c213:=by kernel_rfl,c232:=by kernel_rfl,c233:=by kernel_rfl}
open Go.RowKit in
theorem Tryz.strconv_Atoi_err_var (s : ByteArray) (hl : s.size <= 18) (h : Lib.atoi s.data.toList = none) (tp : TypeId) (p : Value) (w : World) (hvar : w.var? prog "strconv.ErrSyntax" = some #[.iface tp p]) :
 Calls prog 184 #[.string s] w fun e w' =>∃N,e=.returned (.tuple #[.int .i64 0,.iface 256 (.pointer (some ⟨N,0,none⟩))])/\w.heap.size<=N/\w'.heap[N]? =some (.cells #[.string ⟨#[65,116,111,105]⟩,.string s,.iface tp p] 289 (0,0))/\Below w.heap.size w w' :=Any.strconv_Atoi_err_var Tryz.laysC172 s hl h tp p w hvar
def Tryz.lays144_ren:Go.Shelf.Ren:=⟨fun | 144=>224 | 143=>249 | 219=>245 | 217=>220 | 225=>207 | 224=>142 | 267=>268 | 266=>246 | 314=>280 | n=>n,fun | 9=>9 | 4=>4 | 3=>3 | 5=>5 | 46=>169 | 146=>207 | 51=>206 | n=>n,fun | 1=>0 | n=>n⟩
theorem Tryz.lays144:Go.Proofs.Lays.n144 prog Tryz.lays144_ren:=⟨by kernel_rfl,cqz func249 (by kernel_rfl),cqz func224 (by kernel_rfl),cqz func220 (by kernel_rfl),cqz func245 (by kernel_rfl),cqz func142 (by kernel_rfl),cqz func207 (by kernel_rfl),cqz func246 (by kernel_rfl),cqz func268 (by kernel_rfl),cqz func280 (by kernel_rfl),underlying3,isAgg3,sizeOf3,zeroValue3,underlying4,isAgg4,sizeOf4,zeroValue4,underlying5,isAgg5,sizeOf5,zeroValue5,underlying9,isAgg9,sizeOf9,zeroValue9,underlying169,isAgg169,sizeOf169,zeroValue169,underlying206,isAgg206,sizeOf206,zeroValue206,underlying207,isAgg207,sizeOf207,zeroValue207,by kernel_rfl⟩
open Go.RowKit Go.Lib in
theorem Tryz.strings_Contains(s sub:ByteArray)(m:Int)(w:World)(hs:s.size < 4294967281)(hm:w.cell? ⟨0,0,none⟩=some (.int .i64 m)):
 Calls prog 224 #[.string s,.string sub] w fun e w' =>e=.returned (.bool (Lib.contains s.data.toList sub.data.toList))/\w' =w:=Any.strings_Contains Tryz.lays144 s sub m w hs hm
def Tryz.lays145_ren:Go.Shelf.Ren:=⟨fun | 145=>189 | 220=>219 | 219=>245 | 217=>220 | 225=>207 | 224=>142 | 267=>268 | 266=>246 | 314=>280 | n=>n,fun | 9=>9 | 4=>4 | 59=>175 | 3=>3 | 5=>5 | 46=>169 | 146=>207 | 51=>206 | n=>n,fun | 1=>0 | n=>n⟩
theorem Tryz.lays145:Go.Proofs.Lays.n145 prog Tryz.lays145_ren:=⟨by kernel_rfl,cqz func189 (by kernel_rfl),cqz func220 (by kernel_rfl),cqz func245 (by kernel_rfl),cqz func219 (by kernel_rfl),cqz func142 (by kernel_rfl),cqz func207 (by kernel_rfl),cqz func246 (by kernel_rfl),cqz func268 (by kernel_rfl),cqz func280 (by kernel_rfl),underlying3,isAgg3,sizeOf3,zeroValue3,underlying4,isAgg4,sizeOf4,zeroValue4,underlying5,isAgg5,sizeOf5,zeroValue5,underlying9,isAgg9,sizeOf9,zeroValue9,underlying169,isAgg169,sizeOf169,zeroValue169,underlying206,isAgg206,sizeOf206,zeroValue206,underlying175,isAgg175,sizeOf175,zeroValue175,underlying207,isAgg207,sizeOf207,zeroValue207,by kernel_rfl⟩
open Go.RowKit Go.Lib in
theorem Tryz.strings_Cut(s sep:ByteArray)(m:Int)(w:World)(hs:s.size < 4294967281)(hm:w.cell? ⟨0,0,none⟩=some (.int .i64 m)):
 Calls prog 189 #[.string s,.string sep] w fun e w' =>e=.returned (.tuple #[.string ⟨(Lib.cut s.data.toList sep.data.toList).1.toArray⟩,.string ⟨(Lib.cut s.data.toList sep.data.toList).2.1.toArray⟩,.bool (Lib.cut s.data.toList sep.data.toList).2.2])/\∃n,w' =w.drewN n:=Any.strings_Cut Tryz.lays145 s sep m w hs hm
def Tryz.lays99_ren:Go.Shelf.Ren:=⟨fun | 99=>222 | 206=>247 | n=>n,fun | 9=>9 | 4=>4 | 3=>3 | n=>n,fun | n=>n⟩
theorem Tryz.lays99:Go.Proofs.Lays.n99 prog Tryz.lays99_ren:=⟨by kernel_rfl,cqz func222 (by kernel_rfl),cqz func247 (by kernel_rfl),underlying3,isAgg3,sizeOf3,zeroValue3,underlying4,isAgg4,sizeOf4,zeroValue4,underlying9,isAgg9,sizeOf9,zeroValue9⟩
open Go.RowKit Go.Lib in
theorem Tryz.strings_HasPrefix(s p:ByteArray)(w:World):
 Calls prog 222 #[.string s,.string p] w fun e w' =>e=.returned (.bool (Lib.hasPrefix s.data.toList p.data.toList))/\w' =w:=Any.strings_HasPrefix Tryz.lays99 s p w
def Tryz.lays100_ren:Go.Shelf.Ren:=⟨fun | 100=>223 | 207=>248 | n=>n,fun | 9=>9 | 4=>4 | 3=>3 | n=>n,fun | n=>n⟩
theorem Tryz.lays100:Go.Proofs.Lays.n100 prog Tryz.lays100_ren:=⟨by kernel_rfl,cqz func223 (by kernel_rfl),cqz func248 (by kernel_rfl),underlying3,isAgg3,sizeOf3,zeroValue3,underlying4,isAgg4,sizeOf4,zeroValue4,underlying9,isAgg9,sizeOf9,zeroValue9⟩
open Go.RowKit Go.Lib in
theorem Tryz.strings_HasSuffix(s p:ByteArray)(w:World)(hs:s.size<=9223372036854775807):
 Calls prog 223 #[.string s,.string p] w fun e w' =>e=.returned (.bool (Lib.hasSuffix s.data.toList p.data.toList))/\w' =w:=Any.strings_HasSuffix Tryz.lays100 s p w hs
def Tryz.lays226_ren:Go.Shelf.Ren:=⟨fun | 226=>174 | n=>n,fun | 3=>3 | 4=>4 | n=>n,fun | n=>n⟩
theorem Tryz.lays226:Go.Proofs.Lays.n226 prog Tryz.lays226_ren:=⟨by kernel_rfl,cqz func174 (by kernel_rfl),underlying3,isAgg3,sizeOf3,zeroValue3,underlying4,isAgg4,sizeOf4,zeroValue4⟩
open Go.RowKit Go.Lib in
theorem Tryz.strings_shouldUseASCIISet(n:Int)(w:World):
 Calls prog 174 #[.int .i64 n] w fun e w' =>e=.returned (.bool (decide (8 < n)))/\w' =w:=Any.strings_shouldUseASCIISet Tryz.lays226 n w
def Tryz.lays153_ren:Go.Shelf.Ren:=⟨fun | 153=>137 | 152=>173 | 226=>174 | 227=>175 | 228=>176 | 137=>191 | 119=>206 | 224=>142 | 225=>207 | 217=>220 | 266=>246 | n=>n,fun | 9=>9 | 3=>3 | 4=>4 | 5=>5 | 21=>21 | 117=>198 | 116=>197 | 0=>0 | 46=>169 | 124=>233 | n=>n,fun | n=>n⟩
theorem Tryz.lays153:Go.Proofs.Lays.n153 prog Tryz.lays153_ren:=⟨by kernel_rfl,cqz func206 (by kernel_rfl),cqz func191 (by kernel_rfl),cqz func173 (by kernel_rfl),cqz func137 (by kernel_rfl),cqz func220 (by kernel_rfl),cqz func142 (by kernel_rfl),cqz func207 (by kernel_rfl),cqz func174 (by kernel_rfl),cqz func175 (by kernel_rfl),cqz func176 (by kernel_rfl),cqz func246 (by kernel_rfl),underlying0,isAgg0,sizeOf0,zeroValue0,underlying3,isAgg3,sizeOf3,zeroValue3,underlying4,isAgg4,sizeOf4,zeroValue4,underlying5,isAgg5,sizeOf5,zeroValue5,underlying9,isAgg9,sizeOf9,zeroValue9,underlying21,isAgg21,sizeOf21,zeroValue21,underlying169,isAgg169,sizeOf169,zeroValue169,underlying197,isAgg197,sizeOf197,underlying198,isAgg198,sizeOf198,zeroValue198,underlying233,isAgg233,sizeOf233,zeroValue233⟩
open Go.RowKit Go.Lib in
theorem Tryz.strings_IndexAny_long(hv116:∀w,(zeroValue 197).run prog w=.ok (.agg (Array.replicate 256 (.bool false))) w)(s chars:ByteArray)(w:World)(h2:2<=chars.size)(h8:8 < s.size)(hs:s.size < 4294967281)(hcs:chars.size < 4294967281)(hascii:∀(j:Nat) b,chars.data.toList[j]? =some b->b.toNat < 128):
 Calls prog 137 #[.string s,.string chars] w fun e w' =>e=.returned (.int .i64 (Lib.indexAny s.data.toList chars.data.toList))/\w' =((w.alloc (.cells (Lib.setCells chars.data.toList) 197)).alloc (.cells (Lib.setCells chars.data.toList) 197)):=Any.strings_IndexAny_long Tryz.lays153 hv116 (by kernel_rfl) s chars w h2 h8 hs hcs hascii
open Go.RowKit Go.Lib in
theorem Tryz.strings_IndexAny(hv116:∀w,(zeroValue 197).run prog w=.ok (.agg (Array.replicate 256 (.bool false))) w)(s chars:ByteArray)(w:World)(hs:s.size < 4294967281)(hcs:chars.size < 4294967281)(has:∀(j:Nat) b,s.data.toList[j]? =some b->b.toNat < 128)(hac:∀(j:Nat) b,chars.data.toList[j]? =some b->b.toNat < 128):
 Calls prog 137 #[.string s,.string chars] w fun e w' =>e=.returned (.int .i64 (Lib.indexAny s.data.toList chars.data.toList))/\Below w.heap.size w w' :=Any.strings_IndexAny Tryz.lays153 hv116 (by kernel_rfl) s chars w hs hcs has hac
def Tryz.lays150_ren:Go.Shelf.Ren:=⟨fun | 150=>100 | 153=>137 | 152=>173 | 226=>174 | 227=>175 | 228=>176 | 137=>191 | 119=>206 | 224=>142 | 225=>207 | 217=>220 | 266=>246 | n=>n,fun | 9=>9 | 4=>4 | 3=>3 | 5=>5 | 21=>21 | 117=>198 | 116=>197 | 0=>0 | 46=>169 | 124=>233 | n=>n,fun | n=>n⟩
theorem Tryz.lays150:Go.Proofs.Lays.n150 prog Tryz.lays150_ren:=⟨by kernel_rfl,cqz func206 (by kernel_rfl),cqz func191 (by kernel_rfl),cqz func100 (by kernel_rfl),cqz func173 (by kernel_rfl),cqz func137 (by kernel_rfl),cqz func220 (by kernel_rfl),cqz func142 (by kernel_rfl),cqz func207 (by kernel_rfl),cqz func174 (by kernel_rfl),cqz func175 (by kernel_rfl),cqz func176 (by kernel_rfl),cqz func246 (by kernel_rfl),underlying0,isAgg0,sizeOf0,zeroValue0,underlying3,isAgg3,sizeOf3,zeroValue3,underlying4,isAgg4,sizeOf4,zeroValue4,underlying5,isAgg5,sizeOf5,zeroValue5,underlying9,isAgg9,sizeOf9,zeroValue9,underlying21,isAgg21,sizeOf21,zeroValue21,underlying169,isAgg169,sizeOf169,zeroValue169,underlying197,isAgg197,sizeOf197,underlying198,isAgg198,sizeOf198,zeroValue198,underlying233,isAgg233,sizeOf233,zeroValue233⟩
open Go.RowKit Go.Lib in
theorem Tryz.strings_ContainsAny(hv116:∀w,(zeroValue 197).run prog w=.ok (.agg (Array.replicate 256 (.bool false))) w)(s chars:ByteArray)(w:World)(hs:s.size < 4294967281)(hcs:chars.size < 4294967281)(has:∀(j:Nat) b,s.data.toList[j]? =some b->b.toNat < 128)(hac:∀(j:Nat) b,chars.data.toList[j]? =some b->b.toNat < 128):
 Calls prog 100 #[.string s,.string chars] w fun e w' =>e=.returned (.bool (Lib.containsAny s.data.toList chars.data.toList))/\Below w.heap.size w w' :=Any.strings_ContainsAny Tryz.lays150 hv116 (by kernel_rfl) s chars w hs hcs has hac
def Tryz.lays229_ren:Go.Shelf.Ren:=⟨fun | 229=>159 | n=>n,fun | 9=>9 | 40=>182 | 31=>56 | 152=>220 | 3=>3 | 0=>0 | 4=>4 | 21=>21 | 154=>222 | n=>n,fun | n=>n⟩
theorem Tryz.lays229:Go.Proofs.Lays.n229 prog Tryz.lays229_ren:=⟨by kernel_rfl,cqz func159 (by kernel_rfl),underlying0,isAgg0,sizeOf0,zeroValue0,underlying3,isAgg3,sizeOf3,zeroValue3,underlying4,isAgg4,sizeOf4,zeroValue4,underlying9,isAgg9,sizeOf9,zeroValue9,underlying21,isAgg21,sizeOf21,zeroValue21,underlying56,isAgg56,sizeOf56,zeroValue56,underlying182,isAgg182,sizeOf182,zeroValue182,underlying220,isAgg220,sizeOf220,zeroValue220,underlying222,isAgg222,sizeOf222,zeroValue222⟩
open Go.RowKit Go.Lib in
theorem Tryz.strings_FieldsFunc(g:Nat)(lb:Array Value)(eg:∀args w,(callFunc g args).run prog w=.ok (.enter g args) w)(p:Nat->Bool)(s:ByteArray)(w:World)(hs:s.size<=4294967296)(hp:PredAt prog g lb encR p w):
 Calls prog 159 #[.string s,.func (.func g) #[] lb] w fun e w' =>∃A,e=.returned (.slice (some ⟨A,0,none⟩) (Lib.goFieldsP p s).length (Lib.goFieldsP p s).length)/\w.heap.size<=A/\
  w'.ownsRow w.heap.size 9 1 (.slice (some ⟨A,0,none⟩) (Lib.goFieldsP p s).length (Lib.goFieldsP p s).length) (Lib.goFieldsP p s).length ((Lib.goFieldsP p s).map Value.string)/\Below w.heap.size w w' :=Any.strings_FieldsFunc Tryz.lays229 g lb eg p s w hs hp (by kernel_rfl) (by kernel_rfl)
def Tryz.lays185_ren:Go.Shelf.Ren:=⟨fun | 185=>105 | 187=>140 | 115=>139 | 253=>141 | 224=>142 | 254=>143 | 255=>181 | 291=>182 | n=>n,fun | 37=>26 | 3=>3 | 4=>4 | 0=>0 | 5=>5 | 46=>169 | 9=>9 | 146=>207 | 51=>206 | n=>n,fun | 1=>0 | n=>n⟩
theorem Tryz.lays185:Go.Proofs.Lays.n185 prog Tryz.lays185_ren:=⟨by kernel_rfl,cqz func139 (by kernel_rfl),cqz func105 (by kernel_rfl),cqz func140 (by kernel_rfl),cqz func142 (by kernel_rfl),cqz func141 (by kernel_rfl),cqz func143 (by kernel_rfl),cqz func181 (by kernel_rfl),cqz func182 (by kernel_rfl),underlying0,isAgg0,sizeOf0,zeroValue0,underlying3,isAgg3,sizeOf3,zeroValue3,underlying4,isAgg4,sizeOf4,zeroValue4,underlying5,isAgg5,sizeOf5,zeroValue5,underlying9,isAgg9,sizeOf9,zeroValue9,underlying26,isAgg26,sizeOf26,zeroValue26,underlying169,isAgg169,sizeOf169,zeroValue169,underlying206,isAgg206,sizeOf206,zeroValue206,underlying207,isAgg207,sizeOf207,zeroValue207,by kernel_rfl⟩
open Go.RowKit Go.Lib in
theorem Tryz.bytes_Index_longer(p q:Option Addr)(n c m d:Nat)(w:World)(h2:2<=m)(hnm:n < m)(hm:m<=9223372036854775807):
 Calls prog 105 #[.slice p n c,.slice q m d] w fun e w' =>e=.returned (.int .i64 (-1))/\w' =w:=Any.bytes_Index_longer Tryz.lays185 p q n c m d w h2 hnm hm
def Tryz.lays187_ren:Go.Shelf.Ren:=⟨fun | 187=>140 | 255=>181 | n=>n,fun | 37=>26 | 5=>5 | 3=>3 | n=>n,fun | n=>n⟩
theorem Tryz.lays187:Go.Proofs.Lays.n187 prog Tryz.lays187_ren:=⟨by kernel_rfl,cqz func140 (by kernel_rfl),cqz func181 (by kernel_rfl),underlying3,isAgg3,sizeOf3,zeroValue3,underlying5,isAgg5,sizeOf5,zeroValue5,underlying26,isAgg26,sizeOf26,zeroValue26⟩
open Go.RowKit Go.Lib in
theorem Tryz.bytes_IndexByte_at(a:Addr)(n c:Nat)(xs:List Int)(cv:Int)(w:World)(hx:xs.length=n)(hc:∀i,i < n->w.cell? (a.add i)=some (.int .u8 (xs.getD i 0))):
 Calls prog 140 #[.slice (some a) n c,.int .u8 cv] w fun e w' =>e=.returned (.int .i64 (Lib.indexByte (Lib.bytesOf xs) cv.toNat.toUInt8))/\w' =w:=Any.bytes_IndexByte_at Tryz.lays187 a n c xs cv w hx hc
def Tryz.lays115_ren:Go.Shelf.Ren:=⟨fun | 115=>139 | n=>n,fun | 37=>26 | 4=>4 | 9=>9 | 5=>5 | n=>n,fun | n=>n⟩
theorem Tryz.lays115:Go.Proofs.Lays.n115 prog Tryz.lays115_ren:=⟨by kernel_rfl,cqz func139 (by kernel_rfl),underlying4,isAgg4,sizeOf4,zeroValue4,underlying9,isAgg9,sizeOf9,zeroValue9,underlying26,isAgg26,sizeOf26,zeroValue26⟩
open Go.Proofs Go.RowKit Go.Lib in
theorem Tryz.bytes_Index_at(a1 a2:Addr)(n c1 k c2:Nat)(xs ys:List Int)(m:Int)(w:World)(hx:xs.length=n)(hy:ys.length=k)(hr1:∀x∈xs,0<=x/\x < 256)(hr2:∀y∈ys,0<=y/\y < 256)(hc1:∀i,i < n->w.cell? (a1.add i)=some (.int .u8 (xs.getD i 0)))(hc2:∀i,i < k->w.cell? (a2.add i)=some (.int .u8 (ys.getD i 0)))(hcap:n<=c1)(hs:n < 4294967281)(hk:k<=9223372036854775807)(hm:w.cell? ⟨0,0,none⟩=some (.int .i64 m)):
 Calls prog 105 #[.slice (some a1) n c1,.slice (some a2) k c2] w fun e w' =>e=.returned (.int .i64 (Lib.index (Lib.bytesOf xs) (Lib.bytesOf ys)))/\∃q,w' =w.drewN q:=Any.bytes_Index_at Tryz.lays185 a1 a2 n c1 k c2 xs ys m w hx hy hr1 hr2 hc1 hc2 hcap hs hk hm
def Tryz.laysnb116_ren:Go.Shelf.Ren:=⟨fun | 116=>218 | 115=>139 | n=>n,fun | 37=>26 | 4=>4 | 3=>3 | 9=>9 | 5=>5 | n=>n,fun | n=>n⟩
theorem Tryz.laysnb116:Go.Proofs.Lays.nb116 prog Tryz.laysnb116_ren:={mixed:=by kernel_rfl,f115:=cqz func139 (by kernel_rfl),f116:=cqz func218 (by kernel_rfl),t3:=underlying3,a3:=isAgg3,z3:=sizeOf3,v3:=zeroValue3,t4:=underlying4,a4:=isAgg4,z4:=sizeOf4,v4:=zeroValue4,t9:=underlying9,a9:=isAgg9,z9:=sizeOf9,v9:=zeroValue9,t37:=underlying26,a37:=isAgg26,z37:=sizeOf26,v37:=zeroValue26,t5:=underlying5,a5:=isAgg5,z5:=sizeOf5,v5:=zeroValue5}
def Tryz.laysnb117_ren:Go.Shelf.Ren:=⟨fun | 117=>104 | 115=>139 | n=>n,fun | 37=>26 | 4=>4 | 3=>3 | 9=>9 | 5=>5 | n=>n,fun | n=>n⟩
theorem Tryz.laysnb117:Go.Proofs.Lays.nb117 prog Tryz.laysnb117_ren:={mixed:=by kernel_rfl,f115:=cqz func139 (by kernel_rfl),f117:=cqz func104 (by kernel_rfl),t3:=underlying3,a3:=isAgg3,z3:=sizeOf3,v3:=zeroValue3,t4:=underlying4,a4:=isAgg4,z4:=sizeOf4,v4:=zeroValue4,t9:=underlying9,a9:=isAgg9,z9:=sizeOf9,v9:=zeroValue9,t37:=underlying26,a37:=isAgg26,z37:=sizeOf26,v37:=zeroValue26,t5:=underlying5,a5:=isAgg5,z5:=sizeOf5,v5:=zeroValue5}
def Tryz.laysnb140_ren:Go.Shelf.Ren:=⟨fun | 140=>250 | 117=>104 | 115=>139 | n=>n,fun | 37=>26 | 4=>4 | 3=>3 | 9=>9 | 5=>5 | n=>n,fun | n=>n⟩
theorem Tryz.laysnb140:Go.Proofs.Lays.nb140 prog Tryz.laysnb140_ren:={mixed:=by kernel_rfl,f115:=cqz func139 (by kernel_rfl),f117:=cqz func104 (by kernel_rfl),f140:=cqz func250 (by kernel_rfl),t3:=underlying3,a3:=isAgg3,z3:=sizeOf3,v3:=zeroValue3,t4:=underlying4,a4:=isAgg4,z4:=sizeOf4,v4:=zeroValue4,t9:=underlying9,a9:=isAgg9,z9:=sizeOf9,v9:=zeroValue9,t37:=underlying26,a37:=isAgg26,z37:=sizeOf26,v37:=zeroValue26,t5:=underlying5,a5:=isAgg5,z5:=sizeOf5,v5:=zeroValue5}
def Tryz.laysnb142_ren:Go.Shelf.Ren:=⟨fun | 142=>114 | 117=>104 | 115=>139 | n=>n,fun | 37=>26 | 4=>4 | 3=>3 | 9=>9 | 5=>5 | n=>n,fun | n=>n⟩
theorem Tryz.laysnb142:Go.Proofs.Lays.nb142 prog Tryz.laysnb142_ren:={mixed:=by kernel_rfl,f115:=cqz func139 (by kernel_rfl),f117:=cqz func104 (by kernel_rfl),f142:=cqz func114 (by kernel_rfl),t3:=underlying3,a3:=isAgg3,z3:=sizeOf3,v3:=zeroValue3,t4:=underlying4,a4:=isAgg4,z4:=sizeOf4,v4:=zeroValue4,t9:=underlying9,a9:=isAgg9,z9:=sizeOf9,v9:=zeroValue9,t37:=underlying26,a37:=isAgg26,z37:=sizeOf26,v37:=zeroValue26,t5:=underlying5,a5:=isAgg5,z5:=sizeOf5,v5:=zeroValue5}
theorem Tryz.bytes_Equal(v1 v2:Value)(xs ys:List Int)(w:World)(h1:(convert 26 9 v1).run prog w=.ok (.string (strOfNums xs)) w)(h2:(convert 26 9 v2).run prog w=.ok (.string (strOfNums ys)) w):
 Calls prog 139 #[v1,v2] w fun e w' =>e=.returned (.bool (Lib.bytesOf xs==Lib.bytesOf ys))/\w' =w:=Any.bytes_Equal Tryz.lays115 v1 v2 xs ys w h1 h2
theorem Tryz.bytes_HasPrefix(b1 o1 n c b2 o2 m d:Nat)(xs ys:List Int)(w:World)(hx:xs.length=n)(hy:ys.length=m)(hnc:n<=c)(hc1:∀i,i < n->w.cell? ⟨b1,o1+i,none⟩=some (.int .u8 (xs.getD i 0)))(hc2:∀i,i < m->w.cell? ⟨b2,o2+i,none⟩=some (.int .u8 (ys.getD i 0))):
 Calls prog 218 #[.slice (some ⟨b1,o1,none⟩) n c,.slice (some ⟨b2,o2,none⟩) m d] w fun e w' =>e=.returned (.bool (Lib.hasPrefix (Lib.bytesOf xs) (Lib.bytesOf ys)))/\w' =w:=Any.bytes_HasPrefix Tryz.laysnb116 b1 o1 n c b2 o2 m d xs ys w hx hy hnc hc1 hc2
theorem Tryz.bytes_HasSuffix(b1 o1 n c b2 o2 m d:Nat)(xs ys:List Int)(w:World)(hx:xs.length=n)(hy:ys.length=m)(hnc:n<=c)(hbig:n<=9223372036854775807)(hc1:∀i,i < n->w.cell? ⟨b1,o1+i,none⟩=some (.int .u8 (xs.getD i 0)))(hc2:∀i,i < m->w.cell? ⟨b2,o2+i,none⟩=some (.int .u8 (ys.getD i 0))):
 Calls prog 104 #[.slice (some ⟨b1,o1,none⟩) n c,.slice (some ⟨b2,o2,none⟩) m d] w fun e w' =>e=.returned (.bool (Lib.hasSuffix (Lib.bytesOf xs) (Lib.bytesOf ys)))/\w' =w:=Any.bytes_HasSuffix Tryz.laysnb117 b1 o1 n c b2 o2 m d xs ys w hx hy hnc hbig hc1 hc2
theorem Tryz.bytes_TrimSuffix(b1 o1 n c b2 o2 m d:Nat)(xs ys:List Int)(w:World)(hx:xs.length=n)(hy:ys.length=m)(hnc:n<=c)(hbig:n<=9223372036854775807)(hc1:∀i,i < n->w.cell? ⟨b1,o1+i,none⟩=some (.int .u8 (xs.getD i 0)))(hc2:∀i,i < m->w.cell? ⟨b2,o2+i,none⟩=some (.int .u8 (ys.getD i 0))):
 Calls prog 250 #[.slice (some ⟨b1,o1,none⟩) n c,.slice (some ⟨b2,o2,none⟩) m d] w fun e w' =>e=.returned (Lib.bytesTrimSuffix b1 o1 n c xs ys)/\w' =w:=Any.bytes_TrimSuffix Tryz.laysnb140 b1 o1 n c b2 o2 m d xs ys w hx hy hnc hbig hc1 hc2
theorem Tryz.bytes_CutSuffix(b1 o1 n c b2 o2 m d:Nat)(xs ys:List Int)(w:World)(hx:xs.length=n)(hy:ys.length=m)(hnc:n<=c)(hbig:n<=9223372036854775807)(hc1:∀i,i < n->w.cell? ⟨b1,o1+i,none⟩=some (.int .u8 (xs.getD i 0)))(hc2:∀i,i < m->w.cell? ⟨b2,o2+i,none⟩=some (.int .u8 (ys.getD i 0))):
 Calls prog 114 #[.slice (some ⟨b1,o1,none⟩) n c,.slice (some ⟨b2,o2,none⟩) m d] w fun e w' =>e=.returned (.tuple #[Lib.bytesTrimSuffix b1 o1 n c xs ys,.bool (Lib.hasSuffix (Lib.bytesOf xs) (Lib.bytesOf ys))])/\w' =w:=Any.bytes_CutSuffix Tryz.laysnb142 b1 o1 n c b2 o2 m d xs ys w hx hy hnc hbig hc1 hc2
theorem Tryz.bytes_IndexByte(b o n c:Nat)(xs:List Int)(cv:Int)(w:World)(hx:xs.length=n)(hc:∀i,i < n->w.cell? ⟨b,o+i,none⟩=some (.int .u8 (xs.getD i 0))):
 Calls prog 140 #[.slice (some ⟨b,o,none⟩) n c,.int .u8 cv] w fun e w' =>e=.returned (.int .i64 (Lib.indexByte (Lib.bytesOf xs) cv.toNat.toUInt8))/\w' =w:=Any.bytes_IndexByte Tryz.lays187 b o n c xs cv w hx hc
theorem Tryz.bytes_IndexByte_nil(cv:Int)(w:World):
 Calls prog 140 #[.slice none 0 0,.int .u8 cv] w fun e w' =>e=.returned (.int .i64 (-1))/\w' =w:=Any.bytes_IndexByte_nil Tryz.lays187 cv w
end Go.Proofs
namespace Go.Proofs.YtjjgjalfelnclaaGreatDoor
open Go.RowKit Go.Proofs.Tryz
theorem whb(g:G)(q:Nat):Old (fun _=>False) g ⟨g.w.drewN q,g.u,g.loc⟩:=
 ⟨rfl,rfl,rfl,⟨jAn _,fun _ _=>jAn _,fun _ _ _ _=>rfl,fun _ h=>h⟩,fun _ _ _=>⟨rfl,rfl⟩⟩
theorem Vsa{g:G}{s:Str}{v:Value}(h:Rel g (.s s) v):v=.string (strB s):=z6a h
theorem v6a(s:Str)(c:UInt8)(r:Int)(hr:z1a s c=some r):Run prog 191 [.s s,.u8 c] (.i r):=by
 unfold z1a at hr;cases hr;refine ⟨⟨_,_,⟨func191,rfl,by kernel_rfl⟩⟩,fun g vs hw hg ha=>?_⟩;obtain ⟨hsz,hrel⟩:=ha;obtain ⟨l⟩:=vs
 match l,hsz with
 | [x,y],_=>
  obtain rfl:=Vsa (hrel 0 _ rfl);have e2:y=.int .u8 (c.toNat:Int):=z6a (hrel 1 _ rfl);subst e2;refine callsIn_wide.2 ((Tryz.strings_IndexByte (strB s) (c.toNat:Int) g.w).mono ?_);rintro e w' ⟨rfl,rfl⟩;refine ⟨g,_,rfl,rfl,Old.refl _ g,hw,rfl,?_⟩;simp[strB];exact .pv (.b rfl)
theorem j2a(a0:Int)(r:Bool)(hr:kZa a0=some r):Run prog 206 [.pv (.b (.int .i32 a0))] (.bo r):=by
 unfold kZa at hr;refine rfx (fn:=Tryz.f206) func206 fun g0 hg=>?_
 refine jq tk 7 hr [0] [] (fun j1=>[(3,.bo j1)]) (fun _=>[]) (fun j1 hr=>?_) (fun j1 hr=>?_)
 .refine bx tk 4 6 hr (fun c2 hr=>?_) fun c2 hr=>?_
  .exact jx tk 5 hr
  exact jx tk 5 hr
 refine ax tk 0 3 hr (fun hr=>?_) fun hr=>?_
 .exact kx tk 8 hr
 refine jq tk 0 hr [] [] (fun j4=>[(10,.bo j4)]) (fun _=>[]) (fun j4 hr=>?_) (fun j4 hr=>?_)
 .refine bx tk 4 13 hr (fun c5 hr=>?_) fun c5 hr=>?_
  .exact jx tk 5 hr
  exact jx tk 5 hr
 refine ax tk 0 10 hr (fun hr=>?_) fun hr=>?_
 .exact kx tk 8 hr
 exact kx tk 9 hr
theorem y3a(a0:Str)(a1:Int)(r:Int)(hr:kDa a0 a1=some r):Run prog 173 [.s a0,.pv (.b (.int .i32 a1))] (.i r):=by
 unfold kDa at hr;refine rfx (fn:=f173) func173 fun g0 hg=>?_
 refine rn tk 6 rfl<|jb hr (fun j1=>[(0,.s a0),(1,.pv (.b (.int .i32 a1))),(160,.bo j1)]) (fun j1=>[]) (fun j1 hr=>?_) (fun j1 hr=>?_)
 .refine bx tk 4 163 hr (fun c2 hr=>?_) fun c2 hr=>?_
  .exact jx tk 5 hr
  exact jx tk 5 hr
 refine ax tk 0 160 hr (fun hr=>?_) fun hr=>?_
 .refine clx tk 5 hr (v6a _ _) fun v4 _ hr=>?_
  exact kx tk 5 hr
 refine ax tk 7 171 hr (fun hr=>?_) fun hr=>?_
 .refine rn tk 4 rfl<|wr 1175 tk rfl rfl rfl rfl<|rn tk 3 rfl<|al2 hr (fun s7=>[(175,.ptr 1175 0)]) (fun s7=>[(1175,.it (strB a0) s7)]) (.exit 9) (fun b8=>[]) (fun b8=>[]) .ret (fun b9=>[(4,.i b9)]) (fun b9=>[]) rfl rfl (fun s7 x11 hr=>?_) (fun b8 hr=>?_) (fun b9 hr=>?_)
  .unfold q4a at hr;refine rn tk 2 rfl<|wnx hr rfl rfl rfl (fun c12 hr=>?_) (fun c12 hr=>?_)
   .refine ax tk 22 181 hr (fun hr=>?_) fun hr=>?_
    .exact ox tk 8 hr
    exact cx tk 2 hr
   exact ox tk 7 hr
  .exact kx tk 9 hr
  exact kx tk 3 hr
 refine clx tk 3 hr (j2a _) fun v14 _ hr=>?_
 refine ax tk 4 183 hr (fun hr=>?_) fun hr=>?_
 .exact kx tk 7 hr
 refine rn tk 29 rfl<|al2 hr (fun s17=>[(0,.s a0),(7,.s ((Zka a1))),(8,.i ((w64 ((((Zka a1)).length:Int) - 1)))),(9,.i s17)]) (fun s17=>[]) (.exit 1) (fun b18=>[]) (fun b18=>[]) .ret (fun b19=>[(4,.i b19)]) (fun b19=>[]) rfl rfl (fun s17 x21 hr=>?_) (fun b18 hr=>?_) (fun b19 hr=>?_)
 .unfold q6a at hr;refine ax tk 9 26 hr (fun hr=>?_) fun hr=>?_
  .refine rn tk 4 rfl<|jk (fun j23=>[(0,.s a0),(7,.s ((Zka a1))),(8,.i j23.1),(9,.i j23.2)]) (fun j23=>[]) (fun j23=>q5a a0 a1 j23=some x21) ?_ ?_
   .refine rn tk 1 rfl ?_;obtain ⟨v24,h25,hr⟩:=zaa hr;obtain ⟨v26,h27,hr⟩:=zaa hr;refine dq tk 0 6 [] [(2,.u8 v24),(5,.u8 v26)] .nil (.cons rfl rfl (kua (Q9a rfl rfl zGa h25)) (.cons rfl rfl (kua (Q9a rfl rfl zGa h27)) .nil)) ?_ mixed;refine ax tk 3 33 hr (fun hr=>?_) fun hr=>?_
    .refine rn tk 1 rfl ?_;obtain ⟨v29,h30,hr⟩:=zaa hr;obtain ⟨v31,h32,hr⟩:=zaa hr;refine dq tk 0 7 [] [(3,.s v29),(6,.u8 v31)] .nil (.cons rfl rfl (kua (kjb rfl rfl zGa h30)) (.cons rfl rfl (kua (Q9a rfl rfl zGa h32)) .nil)) ?_ mixed;refine clx tk 0 hr (v6a _ _) fun v33 _ hr=>?_
     refine ax tk 10 43 hr (fun hr=>?_) fun hr=>?_
     .exact ox tk 10 hr
     refine rn tk 9 rfl<|jn (((w64 ((((Zka a1)).length:Int) - 1)),(w64 (s17+(w64 (v33+1)))))) hr rfl rfl
    refine rn tk 1 rfl<|jn (((w64 ((((Zka a1)).length:Int) - 1)),s17)) hr rfl rfl
   intro j23 hr;unfold q5a at hr;refine rn tk 7 rfl<|al1 hr (fun s36=>[(0,.s a0),(7,.s ((Zka a1))),(8,.i j23.1),(9,.i j23.2),(12,.i s36)]) (fun s36=>[]) (.exit 3) (fun b37=>[(8,.i j23.1),(9,.i j23.2)]) (fun b37=>[]) rfl rfl (fun s36 x38 hr=>?_) (fun b37 hr=>?_)
   .unfold jaa at hr;refine ax tk 9 51 hr (fun hr=>?_) fun hr=>?_
    .refine rn tk 5 rfl ?_;obtain ⟨v40,h41,hr⟩:=zaa hr;obtain ⟨v42,h43,hr⟩:=zaa hr;refine dq tk 0 10 [] [(4,.u8 v40),(9,.u8 v42)] .nil (.cons rfl rfl (kua (Q9a rfl rfl zGa h41)) (.cons rfl rfl (kua (Q9a rfl rfl zGa h43)) .nil)) ?_ mixed;refine ax tk 3 64 hr (fun hr=>?_) fun hr=>?_
     .cases hr
     exact cx tk 8 hr
    exact ox tk 2 hr
   exact ox tk 15 hr
  exact ox tk 2 hr
 .exact kx tk 12 hr
 exact kx tk 4 hr
theorem y8a(a0:Int)(r:Bool)(hr:zQa a0=some r):Run prog 174 [.i a0] (.bo r):=by
 unfold zQa at hr;refine rfx (fn:=f174) func174 fun g0 hg=>?_
 exact kx tk 13 hr
theorem Qaa(a0:Str)(a1:Str)(r:Int)(hr:wca a0 a1=some r):Run prog 137 [.s a0,.s a1] (.i r):=by
 unfold wca at hr;refine rfx (fn:=Tryz.f137) func137 fun g0 hg=>?_
 refine ax tk 12 12 hr (fun hr=>?_) fun hr=>?_
 .exact kx tk 7 hr
 refine ax tk 10 15 hr (fun hr=>?_) fun hr=>?_
 .refine rn tk 3 rfl ?_;obtain ⟨v3,h4,hr⟩:=zaa hr;refine ws tk h4 rfl rfl rfl rfl<|wur tk rfl rfl rfl<|rn tk 3 rfl<|jb hr (fun j5=>[(0,.s a0),(5,.pv (.b (.int .i32 j5)))]) (fun j5=>[]) (fun j5 hr=>?_) (fun j5 hr=>?_)
  .refine ax tk 6 20 hr (fun hr=>?_) fun hr=>?_
   .exact jx tk 3 hr
   exact jx tk 1 hr
  refine clx tk 4 hr (y3a _ _) fun v7 _ hr=>?_
  exact kx tk 5 hr
 refine clx tk 7 hr (y8a _) fun v9 _ hr=>?_
 refine ax tk 2 26 hr (fun hr=>?_) fun hr=>?_
 .refine rn tk 3 rfl ?_;cases hr
 refine rn tk 6 rfl<|wr 1045 tk rfl rfl rfl rfl<|rn tk 3 rfl<|al2 hr (fun s12=>[(1,.s a1),(45,.ptr 1045 0)]) (fun s12=>[(1045,.it (strB a0) s12)]) (.exit 2) (fun b13=>[]) (fun b13=>[]) .ret (fun b14=>[(4,.i b14)]) (fun b14=>[]) rfl rfl (fun s12 x16 hr=>?_) (fun b13 hr=>?_) (fun b14 hr=>?_)
 .unfold q7a at hr;refine rn tk 2 rfl<|wnx hr rfl rfl rfl (fun c17 hr=>?_) (fun c17 hr=>?_)
  .refine clx tk 20 hr (y3a _ _) fun v18 _ hr=>?_
   refine ax tk 3 53 hr (fun hr=>?_) fun hr=>?_
   .exact ox tk 8 hr
   exact cx tk 2 hr
  exact ox tk 7 hr
 .exact kx tk 8 hr
 exact kx tk 2 hr
theorem z9b(g:G)(vs:Array Value)(t:TypeId):Old (fun _=>False) g ⟨g.w.alloc (.cells vs t),fun k=>if k=g.w.heap.size then 0 else g.u k,g.loc⟩:=by
 have h:=Zxa g vs t 0 0 (g.loc 0);have e:(g.alloc vs t 0 0 (g.loc 0))=⟨g.w.alloc (.cells vs t),fun k=>if k=g.w.heap.size then 0 else g.u k,g.loc⟩:=by
  unfold G.alloc
  congr 1
  funext k;split
  .rename_i hk;rw[hk]
  rfl
 rw[<-e];exact h
theorem wib{g:G}(h:Wf g)(vs:Array Value)(t:TypeId):Wf ⟨g.w.alloc (.cells vs t),fun k=>if k=g.w.heap.size then 0 else g.u k,g.loc⟩:=by
 intro k hk;have hk:g.w.heap.size+1<=k:=by simpa using hk
 show (if k=g.w.heap.size then 0 else g.u k)=0;rw[if_neg (by omega)];exact h k (by omega)
theorem Z3b{t:Str}(h:zDb t=true):∀(j:Nat) b,(strB t).data.toList[j]? =some b->b.toNat < 128:=fun j b hb=>zJb h (jAi hb)
theorem QQa(s t:Str)(r:Int)(hr:qLa s t=some r):Run prog 137 [.s s,.s t] (.i r):=by
 unfold qLa at hr;split at hr
 case isFalse=>cases hr
 rename_i hc;obtain ⟨h1,h2,h3,h4⟩:=hc;by_cases h8:s.length<=8
 .exact Qaa s t r (by rw[vfb s t h8 h3 h2 h4];exact hr)
 cases hr;refine ⟨⟨_,_,⟨func137,rfl,by kernel_rfl⟩⟩,fun g vs hw hg ha=>?_⟩;obtain ⟨hsz,hrel⟩:=ha;obtain ⟨l⟩:=vs
 match l,hsz with
 | [x,y],_=>
  obtain rfl:=Vsa (hrel 0 _ rfl);obtain rfl:=Vsa (hrel 1 _ rfl);have h116:(prog.info? 197).map (fun i=>(i.zero,i.size))=some (some (.agg (Array.replicate 256 (.bool false))),256):=by kernel_rfl
  have hz:=(zero_of_info h116).1;refine callsIn_wide.2 ((Tryz.strings_IndexAny_long hz (strB s) (strB t) g.w (by rw[zNa];exact h3) (by rw[zNa];omega) (by rw[zNa];exact h1) (by rw[zNa];exact h2) (Z3b h4)).mono ?_);rintro e w' ⟨rfl,rfl⟩;have o1:=z9b g (Lib.setCells t) 197;have w1:=wib hw (Lib.setCells t) 197;have o2:=z9b ⟨g.w.alloc (.cells (Lib.setCells t) 197),fun k=>if k=g.w.heap.size then 0 else g.u k,g.loc⟩ (Lib.setCells t) 197;have w2:=wib w1 (Lib.setCells t) 197;have o3:Old (fun _=>False) g _:=o1.trans (o2.mono (S' :=fun b=>False∨g.w.heap.size<=b) (by intro b _ hf;exact hf.elim));exact ⟨⟨_,_,_⟩,_,rfl,(by rfl),o3,w2,(by rfl),.pv (.b rfl)⟩
theorem qpa(a0:Str)(a1:Str)(r:Bool)(hr:zKa a0 a1=some r):Run prog 100 [.s a0,.s a1] (.bo r):=by
 unfold zKa at hr;refine rfx (fn:=Tryz.f100) func100 fun g0 hg=>?_
 refine clx tk 9 hr (QQa _ _) fun v1 _ hr=>?_
 exact kx tk 5 hr
theorem qvb(a0:Str)(r:Bool)(hr:KMa a0=some r):Run prog 236 [.s a0] (.bo r):=by
 unfold KMa at hr;refine rfx (fn:=Tryz.f236) func236 fun g0 hg=>?_
 refine clx tk 8 hr (qpa _ _) fun v1 _ hr=>?_
 exact kx tk 4 hr
theorem zkb(a0:Str)(r:Bool)(hr:ZDa a0=some r):Run prog 204 [.s a0] (.bo r):=by
 unfold ZDa at hr;refine rfx (fn:=f204) func204 fun g0 hg=>?_
 refine jq tk 5 hr [] [] (fun j1=>[(2,.bo j1)]) (fun _=>[]) (fun j1 hr=>?_) (fun j1 hr=>?_)
 .refine clx tk 2 hr (qvb _) fun v2 _ hr=>?_
  refine bx tk 2 6 hr (fun c4 hr=>?_) fun c4 hr=>?_
  .refine bx tk 3 9 hr (fun c5 hr=>?_) fun c5 hr=>?_
   .exact jx tk 17 hr
   refine rn tk 1 rfl ?_;obtain ⟨v6,h7,hr⟩:=zaa hr;refine ug rfl rfl rfl<|ws tk h7 rfl rfl rfl rfl ?_;obtain ⟨v8,h9,hr⟩:=zaa hr;refine ug rfl rfl rfl<|cl (v5a _ _ h9) rfl rfl ?_;refine bx tk 2 14 hr (fun c10 hr=>?_) fun c10 hr=>?_
   .refine rn tk 4 rfl ?_;obtain ⟨v11,h12,hr⟩:=zaa hr;refine ug rfl rfl rfl<|ws tk h12 rfl rfl rfl rfl ?_;obtain ⟨v13,h14,hr⟩:=zaa hr;refine ug rfl rfl rfl<|cl (v5a _ _ h14) rfl rfl ?_;exact jx tk 6 hr
   exact jx tk 12 hr
  exact jx tk 20 hr
 exact kx tk 1 hr
theorem Kda(a0:Str)(a1:Str)(r:(List Str) × zqa)(hr:jwa a0 a1=some r):Run prog 171 [.s a0,.s a1] (.tup [.l cS r.1,.agg [.i r.2.Code,.i r.2.Index]]):=by
 unfold jwa at hr;refine rfx (fn:=Tryz.f171) func171 fun g0 hg=>?_
 refine clx tk 11 hr (qub _) fun v1 _ hr=>?_
 refine ax tk 4 12 hr (fun hr=>?_) fun hr=>?_
 .refine clx tk 2 hr (zea _ _) fun v4 _ hr=>?_
  exact kx tk 7 hr
 refine ax tk 8 17 hr (fun hr=>?_) fun hr=>?_
 .refine clx tk 2 hr (zea _ _) fun v7 _ hr=>?_
  exact kx tk 7 hr
 refine clx tk 3 hr (zkb _) fun v9 _ hr=>?_
 refine ax tk 4 22 hr (fun hr=>?_) fun hr=>?_
 .refine clx tk 2 hr (zea _ _) fun v12 _ hr=>?_
  exact kx tk 7 hr
 refine rn tk 6 rfl ?_;obtain ⟨v14,h15,hr⟩:=zaa hr;refine wc h15 rfl rfl rfl<|rn tk 1 rfl ?_;obtain ⟨v16,h17,hr⟩:=zaa hr;refine wc h17 rfl rfl rfl<|rn tk 10 rfl ?_;refine yva 1008 (d:=8) 9 1 rfl rfl rfl (hO ?_);refine aq1 tk 4 hr [5,8] [5] (fun s18=>[(6,.s s18.1),(7,.i s18.2.1)]) (fun s18=>[(1008,.row 9 false 1 (List.map cS s18.2.2))]) (.exit 1) [5,8] [5] (fun b19=>[(6,.s b19.1)]) (fun b19=>[(1008,.row 9 false 1 (List.map cS b19.2))]) (fun s18 x20 hr=>?_) (fun b19 hr=>?_)
 .unfold yMa at hr;refine ax tk 8 36 hr (fun hr=>?_) fun hr=>?_
  .refine clx tk 7 hr (zjb _ _) fun v22 _ hr=>?_
   refine ax tk 10 41 hr (fun hr=>?_) fun hr=>?_
   .exact ox tk 3 hr
   refine rn tk 7 rfl ?_;obtain ⟨v25,h26,hr⟩:=zaa hr;refine wscH tk h26 rfl rfl rfl rfl<|wz cS ([v25]:List Str) tk rfl rfl (fun _=>rfl) rfl rfl rfl ?_;obtain ⟨v27,h28,hr⟩:=zaa hr;refine wa tk h28 rfl rfl rfl rfl (fun _=>rfl) rfl rfl<|rn tk 6 rfl ?_;obtain ⟨v29,h30,hr⟩:=zaa hr;refine wscL tk h30 rfl rfl rfl rfl ?_;exact cx tk 4 hr
  exact ox tk 2 hr
 refine rn tk 6 rfl<|wz cS ([b19.1]:List Str) tk rfl rfl (fun _=>rfl) rfl rfl rfl ?_;obtain ⟨v31,h32,hr⟩:=zaa hr;refine wa tk h32 rfl rfl rfl rfl (fun _=>rfl) rfl rfl<|rn tk 7 rfl<|wnh tk rfl rfl rfl rfl<|rn tk 4 rfl ?_;refine qTa (d:=55) (F:=cS) (l:=v31) rfl rfl (hC ?_);refine aq2 tk 0 hr [5,8,55,56] [1008,5] (fun s34=>[(57,.i s34)]) (fun _=>[]) (.exit 3) [5,8] [1008,5] (fun _=>[]) (fun _=>[]) .ret [5] [] (fun b36=>[(4,.l cS b36.1)]) (fun b36=>[(5,.cells [.i b36.2.Code,.i b36.2.Index])]) (fun s34 x38 hr=>?_) (fun b35 hr=>?_) (fun b36 hr=>?_)
 .unfold Zba at hr;refine ax tk 6 58 hr (fun hr=>?_) fun hr=>?_
  .refine rn tk 7 rfl ?_;obtain ⟨v40,h41,hr⟩:=zaa hr;refine wi tk h41 rfl rfl rfl rfl rfl ?_;refine ax tk 12 64 hr (fun hr=>?_) fun hr=>?_
   .refine clx tk 3 hr (zea _ _) fun v43 _ hr=>?_
    exact ox tk 7 hr
   exact cx tk 7 hr
  exact ox tk 2 hr
 .refine clx tk 5 hr zya fun v45 _ hr=>?_
  refine rn tk 4 rfl ?_;refine qTa (d:=4) (F:=cS) (l:=v31) rfl rfl (hC ?_);exact kx tk 1 hr
 exact kx tk 2 hr
theorem Vta(a0:List zga)(r:zqa)(hr:vZa a0=some r):Run prog 134 [.l zga.pc a0] (.agg [.i r.Code,.i r.Index]):=by
 unfold vZa at hr;refine rfx (fn:=f134) func134 fun g0 hg=>?_
 refine rn tk 9 rfl<|wn tk rfl rfl rfl ?_;refine ax tk 3 9 hr (fun hr=>?_) fun hr=>?_
 .refine clx tk 2 hr (zea _ _) fun v2 _ hr=>?_
  exact kx tk 5 hr
 refine rn tk 6 rfl<|wn tk rfl rfl rfl ?_;refine aq2 tk 4 hr [2,11,12] [2] (fun s4=>[(13,.i s4)]) (fun _=>[]) (.exit 0) [2] [2] (fun _=>[]) (fun _=>[]) .ret [2] [] (fun _=>[]) (fun b6=>[(2,.cells [.i b6.Code,.i b6.Index])]) (fun s4 x8 hr=>?_) (fun b5 hr=>?_) (fun b6 hr=>?_)
 .unfold vOa at hr;refine ax tk 6 14 hr (fun hr=>?_) fun hr=>?_
  .refine rn tk 7 rfl ?_;obtain ⟨v10,h11,hr⟩:=zaa hr;refine wi tk h11 rfl rfl rfl rfl rfl ?_;refine clx tk 12 hr (Kda _ _) fun v12 _ hr=>?_
   refine clx tk 11 hr (zwa _) fun v14 _ hr=>?_
   refine ax tk 2 27 hr (fun hr=>?_) fun hr=>?_
   .refine clx tk 5 hr (zea _ _) fun v17 _ hr=>?_
    exact ox tk 6 hr
   exact cx tk 7 hr
  exact ox tk 2 hr
 .refine clx tk 4 hr zya fun v19 _ hr=>?_
  exact kx tk 4 hr
 exact kx tk 2 hr
theorem zlb(a0:List UInt8)(r:Int)(hr:ZFa a0=some r):Run prog 172 [.l cU a0] (.i r):=by
 unfold ZFa at hr;refine rfx (fn:=Tryz.f172) func172 fun g0 hg=>?_
 refine aq2 tk 17 hr [0] [] (fun s1=>[(3,.i s1.1),(4,.i s1.2)]) (fun _=>[]) (.exit 0) [] [] (fun _=>[]) (fun _=>[]) .ret [] [] (fun b3=>[(2,.i b3)]) (fun _=>[]) (fun s1 x5 hr=>?_) (fun b2 hr=>?_) (fun b3 hr=>?_)
 .unfold wea at hr;refine rn tk 5 rfl<|wn tk rfl rfl rfl ?_;refine ax tk 3 9 hr (fun hr=>?_) fun hr=>?_
  .refine jkq tk 2 [0] [] (fun j7=>[(3,.i j7.1),(4,.i j7.2)]) (fun _=>[]) (fun j7=>w3a j7=some x5) ?_ ?_
   .refine rn tk 5 rfl ?_;obtain ⟨v8,h9,hr⟩:=zaa hr;refine wi tk h9 rfl rfl rfl rfl rfl ?_;refine jq tk 5 hr [0,3,4,5] [] (fun j10=>[(32,.bo j10)]) (fun _=>[]) (fun j10 hr=>?_) (fun j10 hr=>?_)
    .refine bx tk 4 18 hr (fun c11 hr=>?_) fun c11 hr=>?_
     .refine rn tk 3 rfl<|ug rfl rfl rfl<|wn tk rfl rfl rfl ?_;refine bx tk 3 25 hr (fun c12 hr=>?_) fun c12 hr=>?_
      .refine rn tk 3 rfl ?_;obtain ⟨v13,h14,hr⟩:=zaa hr;refine ug rfl rfl rfl<|wi tk h14 rfl rfl rfl rfl rfl ?_;exact jx tk 4 hr
      exact jx tk 8 hr
     exact jx tk 15 hr
    refine ax tk 0 32 hr (fun hr=>?_) fun hr=>?_
    .refine rn tk 15 rfl<|jn ((0,(w64 (s1.2+1)))) hr rfl rfl
    refine jq tk 3 hr [0,3,4] [] (fun j16=>[(40,.bo j16)]) (fun _=>[]) (fun j16 hr=>?_) (fun j16 hr=>?_)
    .refine bx tk 4 37 hr (fun c17 hr=>?_) fun c17 hr=>?_
     .exact jx tk 4 hr
     exact jx tk 4 hr
    refine ax tk 0 40 hr (fun hr=>?_) fun hr=>?_
    .exact ox tk 9 hr
    refine ax tk 15 44 hr (fun hr=>?_) fun hr=>?_
    .exact ox tk 8 hr
    refine rn tk 2 rfl<|jn (((w64 (s1.1+1)),s1.2)) hr rfl rfl
   intro j7 hr;unfold w3a at hr;exact cx tk 5 hr
  exact ox tk 2 hr
 .exact kx tk 8 hr
 exact kx tk 2 hr
theorem Yma(a0:List UInt8)(r:zqa)(hr:yNa a0=some r):Run prog 136 [.l cU a0] (.agg [.i r.Code,.i r.Index]):=by
 unfold yNa at hr;refine rfx (fn:=f136) func136 fun g0 hg=>?_
 refine clx tk 9 hr (zlb _) fun v1 _ hr=>?_
 refine ax tk 9 5 hr (fun hr=>?_) fun hr=>?_
 .refine clx tk 2 hr (zea _ _) fun v4 _ hr=>?_
  exact kx tk 6 hr
 refine ax tk 6 8 hr (fun hr=>?_) fun hr=>?_
 .refine clx tk 2 hr (zea _ _) fun v7 _ hr=>?_
  exact kx tk 6 hr
 refine clx tk 5 hr zya fun v9 _ hr=>?_
 exact kx tk 4 hr
theorem ZTa(a0:zta)(r:List UInt8)(hr:wda a0=some r):Run prog 135 [.agg [.l zga.pc a0.Fields,.l cU a0.Body]] (.l cU r):=by
 unfold wda at hr;refine rfx (fn:=f135) func135 fun g0 hg=>?_
 refine rn tk 9 rfl ?_;refine yva 1003 (d:=3) 5 1 rfl rfl rfl (hO ?_);refine rn tk 7 rfl<|wn tk rfl rfl rfl ?_;refine aq1 tk 4 hr [1,3,11,12] [1] (fun s1=>[(13,.i s1.1)]) (fun s1=>[(1003,.row 5 false 1 (List.map cU s1.2))]) (.exit 0) [1,3] [1] (fun _=>[]) (fun b2=>[(1003,.row 5 false 1 (List.map cU b2))]) (fun s1 x3 hr=>?_) (fun b2 hr=>?_)
 .unfold vFa at hr;refine ax tk 6 14 hr (fun hr=>?_) fun hr=>?_
  .refine rn tk 6 rfl ?_;obtain ⟨v5,h6,hr⟩:=zaa hr;refine wi tk h6 rfl rfl rfl rfl rfl ?_;refine clx tk 11 hr (Kda _ _) fun v7 _ hr=>?_
   refine rn tk 11 rfl<|wn tk rfl rfl rfl ?_;refine aq1 tk 4 hr [1,3,11,12,13,25,26] [1] (fun s9=>[(27,.i s9.1)]) (fun s9=>[(1003,.row 5 false 1 (List.map cU s9.2))]) (.exit 2) [1,3,11,12,13] [1] (fun _=>[]) (fun b10=>[(1003,.row 5 false 1 (List.map cU b10))]) (fun s9 x11 hr=>?_) (fun b10 hr=>?_)
   .unfold vEa at hr;refine ax tk 6 28 hr (fun hr=>?_) fun hr=>?_
    .refine rn tk 6 rfl ?_;obtain ⟨v13,h14,hr⟩:=zaa hr;refine wi tk h14 rfl rfl rfl rfl rfl<|rn tk 7 rfl ?_;obtain ⟨v15,h16,hr⟩:=zaa hr;refine wo (yJa (k:=33) (l:=s9.2) (s:=v13) (lim:=140737488355328) rfl rfl rfl rfl zja zGa.u zCa rfl h16) rfl<|wz cU ([(13:UInt8),(10:UInt8)]:List UInt8) tk rfl rfl (fun _=>rfl) rfl rfl rfl ?_;obtain ⟨v17,h18,hr⟩:=zaa hr;refine wa tk h18 rfl rfl rfl rfl (fun _=>rfl) rfl rfl ?_;exact cx tk 8 hr
    exact ox tk 2 hr
   exact cx tk 7 hr
  exact ox tk 2 hr
 refine rn tk 3 rfl ?_;obtain ⟨v19,h20,hr⟩:=zaa hr;obtain ⟨v21,h22,hr⟩:=zaa hr;refine mh tk 0 [(1,.l cU (([(13:UInt8),(10:UInt8)]:List UInt8)))] [(0,fun f s=>((38,.hs 1003 0)::f,s)),(2,fun f s=>((40,.hs 1003 0)::Fr.clrs [1003] f,(Sto.upd (Sto.clr 1003 s) 1003 (.row 5 false 1 (List.map cU v19))))),(5,fun f s=>((43,.hs 1003 0)::Fr.clrs [1003] f,(Sto.upd (Sto.clr 1003 s) 1003 (.row 5 false 1 (List.map cU v21))))),(6,fun f s=>((2,.hs 1003 0)::f,s))] [[],[0],[0,2],[0,2,5],[0,2,5,6]] ?_ mixed;refine .cons (mnq tk [0,1] (.cons (mdtq 1 (hv_g rfl rfl (mqz tk rfl))) (.cons (mpu (wja (F:=cU) (l:=([(13:UInt8),(10:UInt8)]:List UInt8)) zja zCa rfl (fun _=>rfl) rfl rfl)) .nil))) (.cons (mnq tk [1,2] (.cons (mpu (wja (F:=cU) (l:=([(13:UInt8),(10:UInt8)]:List UInt8)) zja zCa rfl (fun _=>rfl) rfl rfl)) (.cons (mdtq 2 (jva (F:=cU) (l:=b2) (xs:=(([(13:UInt8),(10:UInt8)]:List UInt8))) (lim:=140737488355328) rfl rfl rfl rfl zja zCa rfl rfl (fun _=>rfl) rfl h20)) .nil))) (.cons (mnq tk [5] (.cons (mdtq 3 (jva (F:=cU) (l:=v19) (xs:=a0.Body) (lim:=140737488355328) rfl rfl rfl rfl zja zCa rfl rfl (fun _=>rfl) rfl h22)) .nil)) (.cons (mnq tk [6] (.cons (mdtq 4 (hv_g rfl rfl (mqz tk rfl))) .nil)) (.cons (mfq tk [] [2] .nil (hA ?_)) .nil))));refine rn tk 1 rfl ?_;refine qTa (d:=2) (F:=cU) (l:=v21) rfl rfl (hC ?_);exact kx tk 1 hr
theorem wla(a0:zta)(r:zqa)(hr:qha a0=some r):Run prog 98 [.agg [.l zga.pc a0.Fields,.l cU a0.Body]] (.agg [.i r.Code,.i r.Index]):=by
 unfold qha at hr;refine rfx (fn:=f98) func98 fun g0 hg=>?_
 refine clx tk 11 hr (Vta _) fun v1 _ hr=>?_
 refine clx tk 7 hr (zwa _) fun v3 _ hr=>?_
 refine ax tk 2 8 hr (fun hr=>?_) fun hr=>?_
 .exact kx tk 8 hr
 refine clx tk 6 hr (ZTa _) fun v6 _ hr=>?_
 refine wn tk rfl rfl rfl ?_;refine ax tk 3 13 hr (fun hr=>?_) fun hr=>?_
 .refine clx tk 2 hr (zea _ _) fun v9 _ hr=>?_
  exact kx tk 5 hr
 refine clx tk 6 hr (Yma _) fun v11 _ hr=>?_
 exact kx tk 4 hr
theorem WPa(a0:zta)(r:(List UInt8) × zqa)(hr:w9a a0=some r):Run prog 103 [.agg [.l zga.pc a0.Fields,.l cU a0.Body]] (.tup [.l cU r.1,.agg [.i r.2.Code,.i r.2.Index]]):=by
 unfold w9a at hr;refine rfx (fn:=Tryz.f103) func103 fun g0 hg=>?_
 refine clx tk 11 hr (wla _) fun v1 _ hr=>?_
 refine clx tk 7 hr (zwa _) fun v3 _ hr=>?_
 refine ax tk 2 8 hr (fun hr=>?_) fun hr=>?_
 .refine mdq tk 1 [] [2,3] .nil ?_ mixed;exact kx tk 3 hr
 refine clx tk 5 hr (ZTa _) fun v6 _ hr=>?_
 refine clx tk 0 hr zya fun v8 _ hr=>?_
 exact kx tk 5 hr
theorem Zea(a0:zta)(r:(List UInt8) × Bool)(hr:vKa a0=some r):Run prog 66 [.agg [.l zga.pc a0.Fields,.l cU a0.Body]] (.tup [.l cU r.1,.bo r.2]):=by
 unfold vKa at hr;refine rfx (fn:=f66) func66 fun g0 hg=>?_
 refine clx tk 10 hr (WPa _) fun v1 _ hr=>?_
 refine rn tk 12 rfl ?_;refine vqa rfl (jea (F:=cU) (l:=([(13:UInt8),(10:UInt8)]:List UInt8)) zja zCa rfl (fun _=>rfl) rfl rfl) zja zCa (kCa rfl) (kCa rfl) rfl (hO ?_);refine clx tk 0 hr (vAa _ _) fun v3 _ hr=>?_
 exact kx tk 6 hr
theorem JQa(a0:zna)(r:Bool)(hr:jBa a0=some r):Run prog 75 [.agg (zN2 a0)] (.bo r):=by
 unfold jBa at hr;refine rfx (fn:=f75) func75 fun g0 hg=>?_
 refine rn tk 12 rfl<|wn tk rfl rfl rfl ?_;refine clx tk 8 hr (Zea _) fun v1 _ hr=>?_
 refine jq tk 8 hr [1] [1] (fun j3=>[(49,.bo j3)]) (fun _=>[]) (fun j3 hr=>?_) (fun j3 hr=>?_)
 .refine bx tk 9 27 hr (fun c4 hr=>?_) fun c4 hr=>?_
  .refine bx tk 13 40 hr (fun c5 hr=>?_) fun c5 hr=>?_
   .exact jx tk 10 hr
   refine bx tk 2 42 hr (fun c6 hr=>?_) fun c6 hr=>?_
   .exact jx tk 8 hr
   exact jx tk 8 hr
  refine bx tk 2 29 hr (fun c7 hr=>?_) fun c7 hr=>?_
  .refine bx tk 4 33 hr (fun c8 hr=>?_) fun c8 hr=>?_
   .refine bx tk 7 40 hr (fun c9 hr=>?_) fun c9 hr=>?_
    .exact jx tk 10 hr
    refine rn tk 2 rfl<|kn 42 c7 rfl ?_;exact jx tk 8 hr
   refine bx tk 7 40 hr (fun c10 hr=>?_) fun c10 hr=>?_
   .exact jx tk 10 hr
   refine rn tk 2 rfl<|kn 42 c7 rfl ?_;exact jx tk 8 hr
  refine bx tk 11 40 hr (fun c11 hr=>?_) fun c11 hr=>?_
  .exact jx tk 10 hr
  refine rn tk 2 rfl<|kn 42 c7 rfl ?_;exact jx tk 8 hr
 refine ax tk 0 49 hr (fun hr=>?_) fun hr=>?_
 .exact kx tk 7 hr
 refine rn tk 7 rfl<|wn tk rfl rfl rfl ?_;refine aq2 tk 4 hr [1,51,52] [1] (fun s13=>[(53,.i s13)]) (fun _=>[]) (.exit 0) [] [] (fun _=>[]) (fun _=>[]) .ret [] [] (fun b15=>[(2,.bo b15)]) (fun _=>[]) (fun s13 x17 hr=>?_) (fun b14 hr=>?_) (fun b15 hr=>?_)
 .unfold wva at hr;refine ax tk 6 54 hr (fun hr=>?_) fun hr=>?_
  .refine rn tk 7 rfl ?_;obtain ⟨v19,h20,hr⟩:=zaa hr;refine wi tk h20 rfl rfl rfl rfl rfl ?_;refine jq tk 5 hr [1,51,52,53] [1] (fun j21=>[(66,.bo j21)]) (fun _=>[]) (fun j21 hr=>?_) (fun j21 hr=>?_)
   .refine bx tk 7 63 hr (fun c22 hr=>?_) fun c22 hr=>?_
    .exact jx tk 4 hr
    exact jx tk 4 hr
   refine ax tk 0 66 hr (fun hr=>?_) fun hr=>?_
   .exact ox tk 8 hr
   exact cx tk 7 hr
  exact ox tk 2 hr
 .exact kx tk 8 hr
 exact kx tk 2 hr
theorem Koa(a0:UInt8)(r:Bool)(hr:wLa a0=some r):Run prog 96 [.u8 a0] (.bo r):=by
 unfold wLa at hr;refine rfx (fn:=f96) func96 fun g0 hg=>?_
 refine jq tk 5 hr [] [] (fun j1=>[(2,.bo j1)]) (fun _=>[]) (fun j1 hr=>?_) (fun j1 hr=>?_)
 .refine bx tk 4 5 hr (fun c2 hr=>?_) fun c2 hr=>?_
  .refine bx tk 4 9 hr (fun c3 hr=>?_) fun c3 hr=>?_
   .exact jx tk 17 hr
   refine bx tk 3 12 hr (fun c4 hr=>?_) fun c4 hr=>?_
   .refine bx tk 5 17 hr (fun c5 hr=>?_) fun c5 hr=>?_
    .exact jx tk 9 hr
    refine bx tk 3 20 hr (fun c6 hr=>?_) fun c6 hr=>?_
    .exact jx tk 6 hr
    exact jx tk 6 hr
   refine bx tk 8 20 hr (fun c7 hr=>?_) fun c7 hr=>?_
   .exact jx tk 6 hr
   exact jx tk 6 hr
  refine bx tk 7 12 hr (fun c8 hr=>?_) fun c8 hr=>?_
  .refine bx tk 5 17 hr (fun c9 hr=>?_) fun c9 hr=>?_
   .exact jx tk 9 hr
   refine bx tk 3 20 hr (fun c10 hr=>?_) fun c10 hr=>?_
   .exact jx tk 6 hr
   exact jx tk 6 hr
  refine bx tk 8 20 hr (fun c11 hr=>?_) fun c11 hr=>?_
  .exact jx tk 6 hr
  exact jx tk 6 hr
 exact kx tk 1 hr
theorem yHa(a0:Str)(r:Bool)(hr:wMa a0=some r):Run prog 58 [.s a0] (.bo r):=by
 unfold wMa at hr;refine rfx (fn:=f58) func58 fun g0 hg=>?_
 refine jq tk 5 hr [] [] (fun j1=>[(2,.bo j1)]) (fun _=>[]) (fun j1 hr=>?_) (fun j1 hr=>?_)
 .refine bx tk 4 5 hr (fun c2 hr=>?_) fun c2 hr=>?_
  .refine bx tk 5 10 hr (fun c3 hr=>?_) fun c3 hr=>?_
   .refine rn tk 1 rfl<|ug rfl rfl rfl ?_;refine ctq tk 0 hr [10] [] (fun j4=>[(12,.bo j4)]) (fun _=>[]) (fun j4 hr jump4=>?_) (fun j4 hr=>?_)
    .refine iq tk 0 400000 [10] (fn:=f94) ⟨func94,rfl,by kernel_rfl⟩ fun T4 ds4=>?_
     refine aq2 tk 14 hr [0,1,7] [499999,400010] (fun s5=>[(8,.i s5)]) (fun _=>[]) (.exit 0) [] [499999,400010] (fun _=>[]) (fun _=>[]) .ret [4] [499999,400010] (fun _=>[]) (fun _=>[]) (fun s5 x9 hr=>?_) (fun b6 hr=>?_) (fun b7 hr=>?_)
     .unfold w2a at hr;refine ax tk 6 9 hr (fun hr=>?_) fun hr=>?_
      .refine rn tk 15 rfl ?_;obtain ⟨v11,h12,hr⟩:=zaa hr;refine ws tk h12 rfl rfl rfl rfl ?_;refine iq tk 0 600000 [0,1,7,8] (fn:=f95) ⟨func95,rfl,by kernel_rfl⟩ fun T6 ds6=>?_
       refine jq tk 5 hr [] [699999,600000,600001,600007,600008,499999,400010] (fun j13=>[(2,.bo j13)]) (fun _=>[]) (fun j13 hr=>?_) (fun j13 hr=>?_)
       .refine clx tk 2 hr (Koa _) fun v14 _ hr=>?_
        refine bx tk 1 5 hr (fun c16 hr=>?_) fun c16 hr=>?_
        .exact jx tk 13 hr
        refine bx tk 4 9 hr (fun c17 hr=>?_) fun c17 hr=>?_
        .exact jx tk 9 hr
        refine bx tk 4 13 hr (fun c18 hr=>?_) fun c18 hr=>?_
        .exact jx tk 5 hr
        exact jx tk 5 hr
       refine ieq tk 1 (hO ?_);refine ax tk 3 16 hr (fun hr=>?_) fun hr=>?_
       .exact ox tk 8 hr
       exact cx tk 7 hr
      exact ox tk 2 hr
     .refine ieq tk 8 ?_;cases hr;exact jump4 _ _ rfl rfl
     refine ieq tk 2 ?_;cases hr;exact jump4 _ _ rfl rfl
    exact jx tk 3 hr
   exact jx tk 5 hr
  exact jx tk 10 hr
 exact kx tk 1 hr
theorem Qba(s t:Str)(r:Str × Str × Bool)(hr:vva s t=some r):Run prog 189 [.s s,.s t] (.tup [.s r.1,.s r.2.1,.bo r.2.2]):=by
 unfold vva at hr;split at hr
 case isFalse=>cases hr
 rename_i hlen;cases hr;refine ⟨⟨_,_,⟨func189,rfl,by kernel_rfl⟩⟩,fun g vs hw hg ha=>?_⟩;obtain ⟨hsz,hrel⟩:=ha;obtain ⟨l⟩:=vs
 match l,hsz with
 | [x,y],_=>
  obtain rfl:=Vsa (hrel 0 _ rfl);obtain rfl:=Vsa (hrel 1 _ rfl);obtain ⟨_,_,m,hm⟩:=hg.1 (0,0) (by simp[Kcb]);refine callsIn_wide.2 ((Tryz.strings_Cut (strB s) (strB t) m g.w (by rw[zNa];exact hlen) hm).mono ?_);rintro e w' ⟨rfl,q,rfl⟩;refine ⟨⟨g.w.drewN q,g.u,g.loc⟩,_,rfl,rfl,whb g q,hw,rfl,.tup rfl fun i c hi=>?_⟩
  match i,hi with
  | 0,rfl=>exact .pv (.b rfl)
  | 1,rfl=>exact .pv (.b rfl)
  | 2,rfl=>exact .pv (.b rfl)
theorem QRa(s t:Str)(r:Bool)(hr:qga s t=some r):Run prog 224 [.s s,.s t] (.bo r):=by
 unfold qga at hr;split at hr
 case isFalse=>cases hr
 rename_i hlen;cases hr;refine ⟨⟨_,_,⟨func224,rfl,by kernel_rfl⟩⟩,fun g vs hw hg ha=>?_⟩;obtain ⟨hsz,hrel⟩:=ha;obtain ⟨l⟩:=vs
 match l,hsz with
 | [x,y],_=>
  obtain rfl:=Vsa (hrel 0 _ rfl);obtain rfl:=Vsa (hrel 1 _ rfl);obtain ⟨_,_,m,hm⟩:=hg.1 (0,0) (by simp[Kcb]);refine callsIn_wide.2 ((Tryz.strings_Contains (strB s) (strB t) m g.w (by rw[zNa];exact hlen) hm).mono ?_);rintro e w' ⟨rfl,rfl⟩;exact ⟨g,_,rfl,rfl,Old.refl _ g,hw,rfl,.pv (.b rfl)⟩
theorem wVa(a0:Str)(a1:Str)(r:Bool)(hr:kna a0 a1=some r):Run prog 247 [.s a0,.s a1] (.bo r):=by
 unfold kna at hr;refine rfx (fn:=Tryz.f247) func247 fun g0 hg=>?_
 refine jq tk 5 hr [] [] (fun j1=>[(4,.bo j1)]) (fun _=>[]) (fun j1 hr=>?_) (fun j1 hr=>?_)
 .refine bx tk 7 10 hr (fun c2 hr=>?_) fun c2 hr=>?_
  .refine rn tk 3 rfl ?_;obtain ⟨v3,h4,hr⟩:=zaa hr;refine ug rfl rfl rfl<|wscH tk h4 rfl rfl rfl rfl ?_;exact jx tk 5 hr
  exact jx tk 9 hr
 exact kx tk 1 hr
theorem Qca(a0:Str)(a1:Str)(r:Bool)(hr:k5a a0 a1=some r):Run prog 222 [.s a0,.s a1] (.bo r):=by
 unfold k5a at hr;refine rfx (fn:=f222) func222 fun g0 hg=>?_
 refine clx tk 9 hr (wVa _ _) fun v1 _ hr=>?_
 exact kx tk 4 hr
theorem wWa(a0:Str)(a1:Str)(r:Bool)(hr:koa a0 a1=some r):Run prog 248 [.s a0,.s a1] (.bo r):=by
 unfold koa at hr;refine rfx (fn:=f248) func248 fun g0 hg=>?_
 refine jq tk 5 hr [] [] (fun j1=>[(4,.bo j1)]) (fun _=>[]) (fun j1 hr=>?_) (fun j1 hr=>?_)
 .refine bx tk 7 10 hr (fun c2 hr=>?_) fun c2 hr=>?_
  .refine rn tk 6 rfl ?_;obtain ⟨v3,h4,hr⟩:=zaa hr;refine ug rfl rfl rfl<|wscL tk h4 rfl rfl rfl rfl ?_;exact jx tk 5 hr
  exact jx tk 12 hr
 exact kx tk 1 hr
theorem Qda(a0:Str)(a1:Str)(r:Bool)(hr:k6a a0 a1=some r):Run prog 223 [.s a0,.s a1] (.bo r):=by
 unfold k6a at hr;refine rfx (fn:=f223) func223 fun g0 hg=>?_
 refine clx tk 9 hr (wWa _ _) fun v1 _ hr=>?_
 exact kx tk 4 hr
end Go.Proofs.YtjjgjalfelnclaaGreatDoor
