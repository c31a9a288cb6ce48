/- Part 5 of the proof of the law WireAcceptedAtMostOnce: what it needs. -/
import Derived.Test.YtjjgjalfelnclaaGreatDoorKWireAcceptedAtMostOnce4
import Derived.Shelf.Strings.Builder1
import Derived.Shelf.Strings.Builder2
import Derived.Shelf.Strings.OnBuilder
import Derived.Shelf.Strings.Trim
import Derived.Shelf.Small.Utf8
import Derived.Shelf.Small.Strs
import Derived.Shelf.Small.Wraps
import Derived.Shelf.Strings.BuilderF
import Derived.Shelf.Strconv.Atoi
import Derived.Shelf.Strconv.Itoa0
import Derived.Shelf.Strconv.Itoa1
import Derived.Shelf.LaysM
import Derived.Shelf.Strconv.Itoa2
import Derived.Shelf.Strconv.Itoa3
import Derived.Shelf.Strconv.AtoiErrFast
import Derived.Shelf.Strconv.ParseIntEmpty
import Derived.Shelf.Strconv.AtoiFail
import Derived.Shelf.Strconv.Clone
import Derived.Shelf.Strconv.SyntaxError
import Derived.Shelf.LaysC
import Derived.Shelf.Strconv.ToError
import Derived.Shelf.Strconv.AtoiErr
import Derived.Shelf.Strconv.ErrVar
import Derived.Shelf.Strings.Search1
import Derived.Shelf.Strings.Search2
import Derived.Shelf.Strings.Search3
import Derived.Shelf.Strings.Cut
import Derived.Shelf.Strings.Count
import Derived.Shelf.Strings.Shaped
import Derived.Shelf.Strings.Prefix
import Derived.Shelf.Strings.Split
import Derived.Shelf.Strings.Runes
import Derived.Shelf.Strings.IndexAny
import Derived.Shelf.Strings.AsciiSet
import Derived.Shelf.Strings.IndexAnyAll
import Derived.Shelf.Unicode.DecodeSlow
import Derived.Shelf.Strings.FieldsFuncAny
import Derived.Ground.Names2Prog
import Derived.Shelf.Slices.Clone
import Derived.Shelf.Bytes.SlIndexSmall
import Derived.Shelf.Bytes.SlIndexAt
import Derived.Shelf.Bytes.SlSearch0
import Derived.Shelf.Bytes.SlSearch1
import Derived.Shelf.Bytes.SlSearch2
import Derived.Shelf.Bytes.SlIndexWhole
import Derived.Shelf.Bytes.SlSmallAll
import Derived.Shelf.Bytes.SlEqualAll
import Derived.Shelf.Bytes.Small
import Derived.Shelf.Bytes.IndexByte
import Derived.Test.YtjjgjalfelnclaaGreatDoorProg
set_option linter.unusedVariables false
set_option linter.unusedSimpArgs false
noncomputable section
set_option maxRecDepth 100000
set_option maxHeartbeats 40000000
namespace Go.Proofs.YtjjgjalfelnclaaGreatDoor
open Go.RowKit Go.Proofs.Tryz
def idN(nm:Str)(k:Nat):Str:=nm++ [45]++Lib.decDigits k
theorem idN_inj{nm:Str}{j k:Nat}(h:idN nm j=idN nm k):j=k:=by
 have h:=List.append_cancel_left h;have:=Qya j;rw[h,Qya k]at this;exact (Option.some.inj this).symm
theorem idN_ok(nm:Str)(k:Nat): [idN nm k]≠ [okW]:=by
 intro h;have h:idN nm k=okW:=List.head_eq_of_cons_eq h;have h45:(45:UInt8)∈idN nm k:=by simp[idN]
 rw[h]at h45;simp[okW]at h45
theorem idN_name{nm:Str}{k:Nat}(h:v4a nm=true)(hl:nm.length<=40)(hk:k<=1000001):v4a (idN nm k)=true:=by
 have h7:=QHa hk;have hp:=y7b k;unfold v4a at h ⊢;simp only[jAh,decide_eq_true_eq,jAw]at h ⊢;refine ⟨⟨by simp[idN];omega,by simp[idN];omega⟩,fun c hc=>?_⟩;unfold idN at hc;rcases jCc.1 hc with hc | hc
 .rcases jCc.1 hc with hc | hc
  .exact h.2 c hc
  rw[jBi.1 hc];rfl
 obtain ⟨h1,h2⟩:=jJa k c hc;have e:c=UInt8.ofNat c.toNat:=(UInt8.ofNat_toNat).symm;rw[e];have:c.toNat=48∨c.toNat=49∨c.toNat=50∨c.toNat=51∨c.toNat=52∨c.toNat=53∨c.toNat=54∨c.toNat=55∨c.toNat=56∨c.toNat=57:=by omega
 rcases this with h | h | h | h | h | h | h | h | h | h <;> rw[h] <;> rfl
def sdP(nm:Str)(k:Nat)(r:zra):Bool:=r.Code==250 && r.Lines==[idN nm k]
def ZYb(nm:Str)(R:List zra)(k:Nat):Nat:=R.countP (sdP nm k)
def okM(nm:Str)(many:Int)(k:Nat)(m:zva):Prop:=m.Envelope.Id=idN nm k/\QSa m=⟨0,0⟩/\(m.Envelope.To.length:Int)<=many/\jka m.Envelope/\yha m.Message
structure MI (nm:Str) (mx:Int) (c0:Nat) (x:Ses):Prop where
 name:x.Server.Name=nm
 many:x.Server.Many=mx
 count:x.Server.Count=((c0+x.mails.length:Nat):Int)
 ok:∀i m,x.mails[i]? =some m->okM nm mx (c0+1+i) m
 said:∀i,ZYb nm x.replies (c0+1+i)=if i < x.mails.length then 1 else 0
theorem MI.of{nm:Str}{many:Int}{c0:Nat}{x:Ses}(h:MI nm many c0 x){s:zsa}(h1:s.Name=x.Server.Name)(h2:s.Many=x.Server.Many)(h3:s.Count=x.Server.Count):MI nm many c0 ⟨s,x.replies,x.mails⟩:=
 ⟨h1.trans h.name,h2.trans h.many,h3.trans h.count,h.ok,h.said⟩
theorem MI.say{nm:Str}{many:Int}{c0:Nat}{x:Ses}(h:MI nm many c0 x){code:Int}{l:List Str}(hl:code≠250∨l.length≠1∨l=[okW]):MI nm many c0 (sayS x code l):=by
 refine ⟨h.name,h.many,h.count,h.ok,fun i=>?_⟩;have e:sdP nm (c0+1+i) ⟨code,l⟩=false:=by
  unfold sdP;rcases hl with hl | hl | hl
  .simp[hl]
  .have:l≠ [idN nm (c0+1+i)]:=fun e=>hl (by rw[e];rfl)
   simp[this]
  subst hl;have:=(idN_ok nm (c0+1+i)).symm;simp only[beq_eq_false_iff_ne.2 this,Bool.and_false]
 rw[show (sayS x code l).mails=x.mails from rfl,<-h.said i];unfold ZYb sayS;simp[e]
theorem smail_ok{m:zva}(h1:m.Envelope.From=[]∨qna m.Envelope.From=true)(h2:m.Envelope.To≠ [])(h3:m.Envelope.To.length<=60)(h4:v4a m.Envelope.Id=true)(h5:(recF m.Envelope.To).Code=0)(h6:(msgF m.Message).Code=0):QSa m=⟨0,0⟩:=by
 have hl:1<=m.Envelope.To.length:=by cases he:m.Envelope.To with
  | nil=>exact absurd he h2
  | cons=>simp
 have he:envF m.Envelope=recF m.Envelope.To:=by
  unfold envF;have e1:Qhb m.Envelope.From=false:=by unfold Qhb;rcases h1 with e | e <;> simp[e]
  have e2:(decide (m.Envelope.To.length < 1) || decide (60 < m.Envelope.To.length))=false:=by rw[decide_eq_false (by omega),decide_eq_false (by omega)];rfl
  rw[e1,e2,h4,if_neg (by decide),if_neg (by decide),if_neg (by simp)]
 unfold QSa;rw[he,h5,h6];rfl
structure DN (x:Ses):Prop where
 frm:x.Server.From=[]∨qna x.Server.From=true
 ne:x.Server.To≠ []
 len:(x.Server.To.length:Int)<=x.Server.Many
 l60:x.Server.To.length<=60
 tos:(recF x.Server.To).Code=0
 data:x.Server.Data.length<=12000
 cnt:x.Server.Count<=1000000
 nm:v4a x.Server.Name=true/\x.Server.Name.length<=40
theorem ZZb{l:List zba}(h:(recF l).Code=0)(hl:l.length<=60):zNb l:=⟨by omega,fun a ha=>by
 have:=Kda ((YTa h).1 a ha).1;omega⟩
theorem Z0b{b:List UInt8}(h:(jSa b).2=true):(jSa b).1=rawM b/\(msgF (rawM b)).Code=0:=by
 unfold jSa at h ⊢;by_cases h6:60 < (j1a b).2.length
 .rw[if_pos h6]at h;cases h
 rw[if_neg h6]at h ⊢;by_cases hz:(msgF (rawM b)).Code=0
 .rw[if_pos hz];exact ⟨rfl,hz⟩
 rw[if_neg hz]at h;cases h
theorem VAb(nm:Str)(R:List zra)(r:zra)(k:Nat):ZYb nm (R++ [r]) k=ZYb nm R k+if sdP nm k r then 1 else 0:=by
 unfold ZYb;rw[List.countP_append,List.countP_singleton]
theorem MI.done{nm:Str}{many:Int}{c0:Nat}{x:Ses}(h:MI nm many c0 x)(d:DN x):MI nm many c0 (KBa x):=by
 unfold KBa;have ab:∀{y:Ses},MI nm many c0 y->MI nm many c0 (abS y):=fun hy=>hy.of rfl rfl rfl
 refine ab ?_;split
 .exact h.say (.inl (by decide))
 split
 .exact h.say (.inl (by decide))
 rename_i hn;have hr:(jSa x.Server.Data).2=true:=by
  cases e:(jSa x.Server.Data).2 with
  | true=>rfl
  | false=>exact absurd (.inl e) hn
 have hnc:x.Server.Count≠1000000:=fun e=>hn (.inr e)
 have hc:=h.count;have hid:idS x.Server=idN nm (c0+1+x.mails.length):=by
  unfold idS idN;rw[h.name,show (x.Server.Count+1).toNat=c0+1+x.mails.length by omega]
 have hk:∀i,sdP nm (c0+1+i) ⟨250,[idS x.Server]⟩=decide (i=x.mails.length):=fun i=>by
  unfold sdP;rw[hid];by_cases e:i=x.mails.length
  .subst e;simp
  have:idN nm (c0+1+x.mails.length)≠idN nm (c0+1+i):=fun q=>e (by have:=idN_inj q;omega)
  have:([idN nm (c0+1+x.mails.length)]==[idN nm (c0+1+i)])=false:=beq_eq_false_iff_ne.2 fun q=>this (List.head_eq_of_cons_eq q)
  rw[decide_eq_false e];simp only[this,Bool.and_false]
 obtain ⟨q1,q2⟩:=Z0b hr;have hm:okM nm many (c0+1+x.mails.length) ⟨⟨x.Server.From,x.Server.To,idS x.Server⟩,(jSa x.Server.Data).1⟩:=by
  obtain ⟨d1,d2,d3,d4,d5,d6,d7,d8,d9⟩:=d;rw[h.name]at d8 d9;rw[h.many]at d3;have hnm:=idN_name d8 d9 (k:=c0+1+x.mails.length) (by omega);have h60:=KVa hnm;rw[q1,hid];exact ⟨rfl,smail_ok d1 d2 d4 hnm d5 q2,d3,⟨by
   rcases d1 with e | e
   .show x.Server.From.length<=_;rw[e];simp
   have:=Kda e;show x.Server.From.length<=_;omega,by show (idN nm (c0+1+x.mails.length)).length<=_;omega,ZZb d5 d4⟩,z4b _ d6⟩
 refine ⟨h.name,h.many,?_,fun i m hi=>?_,fun i=>?_⟩
 .show x.Server.Count+1=((c0+(x.mails++ [_]).length:Nat):Int);rw[jAl];simp only[jAr,jBp];omega
 .have hi:(x.mails++ [(⟨⟨x.Server.From,x.Server.To,idS x.Server⟩,(jSa x.Server.Data).1⟩:zva)])[i]? =some m:=hi;by_cases hl:i < x.mails.length
  .rw[jAt hl]at hi;exact h.ok i m hi
  rw[jAq (by omega)]at hi;have hz:i - x.mails.length=0:=by
   by_cases e:i - x.mails.length=0
   .exact e
   rw[jBt (by simp;omega)]at hi;cases hi
  rw[hz]at hi;have hi:=Option.some.inj hi;rw[<-hi,show i=x.mails.length by omega];exact hm
 show ZYb nm (x.replies++ [⟨250,[idS x.Server]⟩]) (c0+1+i)=if i < (x.mails++ [_]).length then 1 else 0;rw[VAb,h.said i,hk i,jAl];simp only[jAr,jBp,decide_eq_true_eq];by_cases h1:i < x.mails.length
 .rw[if_pos h1,if_neg (by omega),if_pos (by omega)]
 by_cases h2:i=x.mails.length
 .rw[if_neg h1,if_pos h2,if_pos (by omega)]
 rw[if_neg h1,if_neg h2,if_neg (by omega)]
theorem MI.chunk{nm:Str}{many:Int}{c0:Nat}{x:Ses}(h:MI nm many c0 x)(d:x.Server.Ignore=false->DN x):MI nm many c0 (yna x):=by
 unfold yna;have h0:MI nm many c0 ⟨{x.Server with Phase:=0,Last:=false,Ignore:=false},x.replies,x.mails⟩:=h.of rfl rfl rfl;cases hi:x.Server.Ignore with
 | true=>exact h0.say (.inl (by decide))
 | false=>
  obtain ⟨d1,d2,d3,d4,d5,d6,d7,d8⟩:=d hi;cases x.Server.Last with
  | true=>exact h0.done ⟨d1,d2,d3,d4,d5,d6,d7,d8⟩
  | false=>exact h0.say (.inr (.inr rfl))
theorem MI.exec{nm:Str}{many:Int}{c0:Nat}{x:Ses}(h:MI nm many c0 x)(d:x.Server.To≠ []->DN x)(c:zfa):MI nm many c0 (yta x c):=by
 unfold yta;split
 .exact MI.say (x:=⟨{(abS x).Server with Greeted:=true},x.replies,x.mails⟩) (h.of rfl rfl rfl) (.inr (.inl (by simp)))
 split
 .cases !x.Server.Greeted || x.Server.Mailing with
  | true=>exact h.say (.inl (by decide))
  | false=>
   simp only[cond_false];split
   .exact h.say (.inl (by decide))
   exact MI.say (x:=⟨{x.Server with Mailing:=true,From:=c.Address},x.replies,x.mails⟩) (h.of rfl rfl rfl) (.inr (.inr rfl))
 split
 .unfold WXa;cases !x.Server.Mailing || x.Server.Chunked with
  | true=>exact h.say (.inl (by decide))
  | false=>
   simp only[cond_false];split
   .exact h.say (.inl (by decide))
   exact MI.say (x:=⟨{x.Server with To:=addR x c},x.replies,x.mails⟩) (h.of rfl rfl rfl) (.inr (.inr rfl))
 split
 .cases x.Server.To.isEmpty || x.Server.Chunked with
  | true=>exact h.say (.inl (by decide))
  | false=>exact MI.say (x:=⟨{x.Server with Phase:=1},x.replies,x.mails⟩) (h.of rfl rfl rfl) (.inl (by decide))
 split
 .split
  .refine MI.chunk (x:=⟨{x.Server with Phase:=2,Left:=c.Size,Last:=c.Last,Ignore:=x.Server.To.isEmpty,Chunked:= !x.Server.To.isEmpty},x.replies,x.mails⟩) (h.of rfl rfl rfl) fun hi=>?_
   have hi:x.Server.To.isEmpty=false:=hi;obtain ⟨d1,d2,d3,d4,d5,d6,d7,d8⟩:=d fun e=>by rw[e]at hi;cases hi
   exact ⟨d1,d2,d3,d4,d5,d6,d7,d8⟩
  exact h.of rfl rfl rfl
 split
 .exact MI.say (x:=abS x) (h.of rfl rfl rfl) (.inr (.inr rfl))
 split
 .exact MI.say (x:=⟨{(abS x).Server with Phase:=3,Buffer:=[]},x.replies,x.mails⟩) (h.of rfl rfl rfl) (.inl (by decide))
 exact h.say (.inr (.inr rfl))
theorem MI.keep{nm:Str}{many:Int}{c0:Nat}{x:Ses}(h:MI nm many c0 x)(c:UInt8):MI nm many c0 (z4a x c):=by
 unfold z4a;split <;> exact h.of rfl rfl rfl
theorem yxb:∀(k:Nat) (l:List UInt8) (c n:Nat),l.length<=k->Vpa c l=none->l.length<=n->Zua n l=l
 | _,[],c,n,_,_,_=>by cases n <;> rfl
 | k,[x],c,n,_,h,hn=>by
  unfold Vpa at h;have hx:(x==13 || x==10)=false:=by
   cases hq:x==13 || x==10 with
   | false=>rfl
   | true=>rw[if_pos hq]at h;cases h
  simp only[jCe,beq_eq_false_iff_ne]at hx;cases n with
  | zero=>simp at hn
  | succ n=>
   unfold Zua;rw[if_neg hx.1,if_neg hx.2];cases n <;> rfl
 | 0,x::y::r,c,n,hk,_,_=>by simp at hk
 | k+1,x::y::r,c,n,hk,h,hn=>by
  unfold Vpa at h;cases n with
  | zero=>simp at hn
  | succ n=>
   simp only[jAr]at hk hn;by_cases h1:(x==13 && y==10)=true
   .rw[if_pos h1]at h;simp only[jAh,beq_iff_eq]at h1;obtain ⟨rfl,rfl⟩:=h1;unfold Zua;rw[if_pos rfl,if_pos (by rfl),show (10::r:List UInt8).drop 1=r from rfl,yxb k r 0 n (by omega) h (by omega)]
   rw[if_neg h1]at h;have hx:(x==13 || x==10)=false:=by
    cases hq:x==13 || x==10 with
    | false=>rfl
    | true=>rw[if_pos hq]at h;cases h
   rw[hx]at h;simp only[jCe,beq_eq_false_iff_ne]at hx;have h9:Vpa (c+1) (y::r)=none:=by
    by_cases h9:998 < c+1
    .rw[if_pos h9]at h;simp at h
    rw[if_neg h9]at h;simpa using h
   unfold Zua;rw[if_neg hx.1,if_neg hx.2,yxb k (y::r) (c+1) n (by simp only[jAr];omega) h9 (by simp only[jAr];omega)]
theorem qrb(l r:List UInt8)(h:(10:UInt8) ∉ l):j0a (l++13::10::r)=(l,l.length+2):=by
 have e:eol (l++13::10::r)=l.length+1:=by
  unfold eol;rw[List.findIdx_append];have h1:l.findIdx (· ==10)=l.length:=List.findIdx_eq_length.2 fun x hx=>by
   rw[beq_eq_false_iff_ne];intro e;subst e;exact h hx
  rw[h1,if_neg (by omega)];simp[List.findIdx_cons];omega
 unfold j0a;rw[e,if_pos (by simp)];have e2:(l++13::10::r).take (l.length+1)=l++ [13]:=by
  rw[show l++13::10::r=(l++ [13])++10::r by simp,List.take_left' (by simp)]
 rw[e2];have e3:chop (l++ [13])=l:=by
  unfold chop;rw[if_pos (jBk.2 ⟨l,rfl⟩)];simp
 rw[e3]
theorem jMb{l:Str}(h:∀b,l.getLast? =some b->kta b=false):Zta l=l:=by
 rcases List.eq_nil_or_concat l with rfl | ⟨p,x,rfl⟩
 .rfl
 rw[List.concat_eq_append]at h ⊢;rw[ZSb,h x (by simp)];rfl
theorem ltrim_id{l:Str}(h:∀b,l.head? =some b->kta b=false):QVa l=l:=by
 cases l with
 | nil=>rfl
 | cons x l=>unfold QVa;rw[List.dropWhile_cons,h x rfl];rfl
theorem clean_id{v:Str}(h:∀c∈v,endC c=false):v.map qja=v:=by
 have:v.map qja=v.map id:=jDf fun c hc=>by
  have:=h c hc;unfold endC at this;simp only[jCe,beq_eq_false_iff_ne]at this;unfold qja;rw[if_neg (fun e=>e.elim this.2 this.1.1)];rfl
 rw[this,List.map_id]
theorem clean_rt{v:Str}(h:valP v=true):Ksa (32::v)=v:=by
 unfold valP at h;simp only[jAh,jCo,jCj,Bool.not_eq_true]at h;obtain ⟨h1,h2⟩:=h;unfold Ksa;have e:(32::v:Str).map qja=32::v:=by
  rw[jCh,clean_id h1];rfl
 rw[e];have e2:QVa (32::v)=QVa v:=by unfold QVa;rw[List.dropWhile_cons];rfl
 have hed:∀a b,v.head? =some a->v.getLast? =some b->kta a=false/\kta b=false:=fun a b ha hb=>by
  unfold edgeP at h2;rw[ha,hb]at h2;simpa using h2
 have e3:QVa v=v:=ltrim_id fun b hb=>by
  have hne:v≠ []:=fun e=>by rw[e]at hb;cases hb
  exact (hed b _ hb (List.getLast?_eq_some_getLast hne)).1
 have e4:Zta v=v:=jMb fun b hb=>by
  cases hv:v with
  | nil=>rw[hv]at hb;cases hb
  | cons x t=>exact (hed x b (by rw[hv];rfl) hb).2
 rw[e2,e3,e4]
theorem jNb{t:Str}{f c:Nat}(h:br t f c=true):∃b r,t.drop c=b::r/\kta b=true:=by
 obtain ⟨h1,h2,h3⟩:=kZb h;rw[br_at h2 h1]at h;simp only[jAh]at h;exact ⟨t[c],t.drop (c+1),jCs h1,h.2.1⟩
theorem cut_br{t:Str}{f:Nat}(h:cutP t f≠0):br t f (cutP t f)=true:=by
 rcases ycb t f with h1 | h1
 .exact absurd h1.1 h
 exact h1.1
theorem JTa:∀(n:Nat) (t:Str) (f:Nat),t.length<=n->(∃b r,t=b::r/\kta b=true)->∀l∈jKa t f,∃b r,l=b::r/\kta b=true
 | 0,t,f,hn,⟨b,r,e,_⟩=>by rw[e]at hn;simp at hn
 | n+1,t,f,hn,⟨b,r,e,hb⟩=>fun l hl=>by
  by_cases h78:78 < t.length
  .by_cases hc:cutP t f=0
   .rw[qHa (.inr hc),jBi]at hl;exact ⟨b,r,hl.trans e,hb⟩
   have hp:=Qza hc;rw[Zba h78 hc]at hl;rcases jBh.1 hl with h1 | h1
   .obtain ⟨k,hk⟩:∃k,cutP t f=k+1:=⟨cutP t f - 1,by omega⟩;rw[hk,e]at h1;exact ⟨b,r.take k,by rw[h1];rfl,hb⟩
   exact JTa n (t.drop (cutP t f)) 1 (by simp;omega) (jNb (cut_br hc)) l h1
  rw[qHa (.inl h78),jBi]at hl;exact ⟨b,r,hl.trans e,hb⟩
theorem VBb(n v:Str):∃(v1:Str) (L:List Str),flP n v=(n++58::32::v1)::L/\v1++L.flatten=v/\∀l∈L,∃b r,l=b::r/\kta b=true:=by
 have ht:txt n v=n++58::32::v:=by unfold txt;simp
 unfold flP;by_cases h78:78 < (txt n v).length
 .by_cases hc:cutP (txt n v) (n.length+2)=0
  .rw[qHa (.inr hc),ht];exact ⟨v,[],rfl,by simp,by simp⟩
  have hb:=cut_br hc;obtain ⟨h1,h2,h3⟩:=kZb hb;have hj:=(KWa _ (txt n v) (n.length+2) (jAn _)).1;rw[Zba h78 hc]at hj ⊢;have e:(txt n v).take (cutP (txt n v) (n.length+2))=n++58::32::v.take (cutP (txt n v) (n.length+2) - (n.length+2)):=by
   rw[show txt n v=(n++ [58,32])++v by rw[ht];simp,List.take_append];rw[jCm (by simp;rw[<-ht];exact h3)];simp
  refine ⟨_,_,by rw[e],?_,JTa _ _ 1 (jAn _) (jNb hb)⟩;rw[List.flatten_cons,e,ht,jAx]at hj;have:=List.append_cancel_left hj;simpa[ht]using this
 rw[qHa (.inl h78),ht];exact ⟨v,[],rfl,by simp,by simp⟩
theorem jOb{n:Str}(h:fnP n=true):n≠ []/\∀c∈n,fnC c=true:=by
 unfold fnP at h;simp only[jAh,bne_iff_ne,ne_eq,jAw]at h;exact ⟨h.1.1,h.2⟩
theorem jPb{c:UInt8}(h:fnC c=true):c≠58/\c≠10/\c≠13/\kta c=false:=by
 unfold fnC at h;simp only[jAh,decide_eq_true_eq,bne_iff_ne]at h;have h33:(33:UInt8).toNat<=c.toNat:=jDv.1 h.1.1;have k:(33:UInt8).toNat=33:=rfl;refine ⟨h.2,?_,?_,?_⟩
 .rintro rfl;exact absurd h33 (by decide)
 .rintro rfl;exact absurd h33 (by decide)
 unfold kta;rw[jCe,beq_eq_false_iff_ne,beq_eq_false_iff_ne];constructor
 .rintro rfl;exact absurd h33 (by decide)
 rintro rfl;exact absurd h33 (by decide)
theorem colP_at{n v1:Str}(h:fnP n=true):colP (n++58::32::v1)=(n,32::v1,true):=by
 obtain ⟨h1,h2⟩:=jOb h;have e:colI (n++58::32::v1)=n.length:=by
  unfold colI;rw[List.findIdx_append];have h3:n.findIdx (· ==58)=n.length:=List.findIdx_eq_length.2 fun x hx=>by
   rw[beq_eq_false_iff_ne];exact (jPb (h2 x hx)).1
  rw[h3,if_neg (by omega)];simp[List.findIdx_cons]
 have er:Zta n=n:=jMb fun b hb=>(jPb (h2 b (List.mem_of_getLast? hb))).2.2.2
 unfold colP;rw[e,if_pos (by simp),List.take_left' rfl,er,h];have:(n++58::32::v1).drop (n.length+1)=32::v1:=by
  rw[show n++58::32::v1=(n++ [58])++32::v1 by simp,List.drop_left' (by simp)]
 rw[this]
def crs(l:Str):List UInt8:=l++ [13,10]
theorem v8b(fs:List zga)(f:zga)(t:Str):Qaa (fs++ [f]) t=fs++ [⟨f.Name,f.Value++t⟩]:=by
 unfold Qaa;have e:(fs++ [f])[(fs++ [f]).length - 1]? =some f:=by simp
 rw[e];simp
theorem v9b{b:List UInt8}{s s' :Nat × List zga}(d:Nat × List zga)(n:Nat)(h:vna b s=.inl s'):K9a (vna b) d (n+1) s=K9a (vna b) d n s' :=by
 rw[K9a,h]
theorem jQb(b:List UInt8)(d:Nat × List zga)(n:Nat)(fs:List zga):∀(L:List Str) (p r:List UInt8) (f:zga),(∀l∈L,(10:UInt8) ∉ l/\∃c t,l=c::t/\kta c=true)->b=p++(L.flatMap crs++r)->
 K9a (vna b) d (n+L.length) (p.length,fs++ [f])=K9a (vna b) d n ((p++L.flatMap crs).length,fs++ [⟨f.Name,f.Value++L.flatten⟩])
 | [],p,r,f,_,_=>by simp
 | l::L,p,r,f,hL,hb=>by
  obtain ⟨h10,c,t,e,hc⟩:=hL l (by simp);have hb2:b=(p++crs l)++(L.flatMap crs++r):=by rw[hb];simp
  have hd:b.drop p.length=l++13::10::(L.flatMap crs++r):=by
   rw[hb,List.drop_left' rfl];simp[crs]
  have hs:vna b (p.length,fs++ [f])=.inl ((p++crs l).length,fs++ [⟨f.Name,f.Value++l⟩]):=by
   unfold vna;dsimp only;rw[if_pos (by rw[hb,jDq];simp[crs];omega),hd,qrb _ _ h10];dsimp only;rw[e];dsimp only;rw[if_pos ⟨hc,by simp⟩,<-e,v8b];simp[crs]
  rw[jAr,show n+(L.length+1)=(n+L.length)+1 by omega,v9b d _ hs,jQb b d n fs L (p++crs l) r ⟨f.Name,f.Value++l⟩ (fun x hx=>hL x (by simp[hx])) hb2];simp
theorem field_rt(b:List UInt8)(d:Nat × List zga)(n:Nat)(fs:List zga)(f:zga)(hf:Kca f=0)(p r:List UInt8)(hb:b=p++((flP f.Name f.Value).flatMap crs++r)):
 K9a (vna b) d (n+(flP f.Name f.Value).length) (p.length,fs)=K9a (vna b) d n ((p++(flP f.Name f.Value).flatMap crs).length,fs++ [⟨f.Name,32::f.Value⟩]):=by
 rw[YRa]at hf;unfold ZBb at hf;have hn:fnP f.Name=true:=by
  cases e:fnP f.Name with
  | true=>rfl
  | false=>rw[e,if_pos (by simp)]at hf;exact absurd hf (by decide)
 rw[hn,if_neg (by simp)]at hf;have hv4:¬4000 < f.Value.length:=fun e=>by rw[if_pos e]at hf;exact absurd hf (by decide)
 rw[if_neg hv4]at hf;have hv:valP f.Value=true:=by
  cases e:valP f.Value with
  | true=>rfl
  | false=>rw[e,if_pos (by simp)]at hf;exact absurd hf (by decide)
 obtain ⟨h1,h2⟩:=jOb hn;have hj:=(KWa _ (txt f.Name f.Value) (f.Name.length+2) (jAn _)).1;have no10:(10:UInt8) ∉ txt f.Name f.Value:=by
  intro h;unfold txt at h;rcases jCc.1 h with h | h
  .rcases jCc.1 h with h | h
   .exact (jPb (h2 _ h)).2.1 rfl
   simp at h
  unfold valP at hv;simp only[jAh,jCo,jCj]at hv;exact hv.1 _ h rfl
 have no10l:∀l∈flP f.Name f.Value,(10:UInt8) ∉ l:=fun l hl h=>no10 (by
  rw[<-hj];exact List.mem_flatten.2 ⟨l,hl,h⟩)
 obtain ⟨v1,L,e1,e2,e3⟩:=VBb f.Name f.Value;rw[e1]at hb no10l ⊢;have hfirst:=no10l _ (jDu ..);have hb2:b=(p++crs (f.Name++58::32::v1))++(L.flatMap crs++r):=by rw[hb];simp
 have hd:b.drop p.length=(f.Name++58::32::v1)++13::10::(L.flatMap crs++r):=by
  rw[hb,List.drop_left' rfl];simp[crs]
 have hs:vna b (p.length,fs)=.inl ((p++crs (f.Name++58::32::v1)).length,fs++ [⟨f.Name,32::v1⟩]):=by
  unfold vna;dsimp only;rw[if_pos (by rw[hb,jDq];simp[crs];omega),hd,qrb _ _ hfirst];dsimp only;obtain ⟨c,t,hct⟩:∃c t,f.Name=c::t:=List.exists_cons_of_ne_nil h1;have hc:kta c=false:=(jPb (h2 c (by rw[hct];simp))).2.2.2;have e4:f.Name++58::32::v1=c::(t++58::32::v1):=by rw[hct];rfl
  rw[e4];dsimp only;rw[<-e4,if_neg (by rw[hc];simp),colP_at hn,if_pos rfl];simp[crs];omega
 rw[jAr,show n+(L.length+1)=(n+L.length)+1 by omega,v9b d _ hs,jQb b d n fs L _ r ⟨f.Name,32::v1⟩ (fun l hl=>⟨no10l l (by simp[hl]),e3 l hl⟩) hb2];rw[<-e2];simp
def wka(f:zga):List UInt8:=(flP f.Name f.Value).flatMap crs
theorem addF_eq(a:List UInt8)(f:zga):addF a f=a++wka f:=by
 unfold addF wka;have key:∀(L:List Str) (a:List UInt8),L.foldl addL a=a++L.flatMap crs:=by
  intro L;induction L with
  | nil=>intro a;simp
  | cons l L ih=>intro a;rw[jDw,ih];simp[addL,crs]
 exact key _ a
theorem VCb(L:List zga)(a:List UInt8):L.foldl addF a=a++L.flatMap wka:=by
 induction L generalizing a with
 | nil=>simp
 | cons f L ih=>rw[jDw,ih,addF_eq];simp
theorem wab(m:zta):zia m=m.Fields.flatMap wka++13::10::m.Body:=by
 unfold zia;rw[VCb];simp
def ZVa(L:List zga):Nat:=(L.map fun f=>(flP f.Name f.Value).length).sum
theorem wbb(b:List UInt8)(d:Nat × List zga)(n:Nat):∀(L:List zga) (fs:List zga) (p r:List UInt8),(∀f∈L,Kca f=0)->b=p++(L.flatMap wka++r)->
 K9a (vna b) d (n+ZVa L) (p.length,fs)=K9a (vna b) d n ((p++L.flatMap wka).length,fs++L.map fun f=>⟨f.Name,32::f.Value⟩)
 | [],fs,p,r,_,_=>by simp[ZVa]
 | f::L,fs,p,r,hL,hb=>by
  have hb2:b=(p++wka f)++(L.flatMap wka++r):=by rw[hb];simp
  have e:ZVa (f::L)=ZVa L+(flP f.Name f.Value).length:=by unfold ZVa;simp;omega
  rw[e,show n+(ZVa L+(flP f.Name f.Value).length)=(n+ZVa L)+(flP f.Name f.Value).length by omega];rw[field_rt b d (n+ZVa L) fs f (hL f (by simp)) p (L.flatMap wka++r) (by rw[hb];simp[wka])];have:=wbb b d n L (fs++ [⟨f.Name,32::f.Value⟩]) (p++wka f) r (fun g hg=>hL g (by simp[hg])) hb2;unfold wka at this ⊢;rw[this];simp
theorem crs_len(L:List Str):L.length<=(L.flatMap crs).length:=by
 induction L with
 | nil=>simp
 | cons l L ih=>simp[crs]at ih ⊢;omega
theorem Z1b(L:List zga):ZVa L<=(L.flatMap wka).length:=by
 induction L with
 | nil=>simp[ZVa]
 | cons f L ih=>
  have:=crs_len (flP f.Name f.Value);unfold ZVa at ih ⊢;simp only[jCh,List.sum_cons,jDq,jAl];unfold wka at ih ⊢;omega
theorem VDb{m:zta}(h:∀f∈m.Fields,Kca f=0):j1a (zia m)=((m.Fields.flatMap wka).length+2,m.Fields.map fun f=>⟨f.Name,32::f.Value⟩):=by
 unfold j1a;have hb:=wab m;have hl:=Z1b m.Fields;have hlen:(zia m).length=(m.Fields.flatMap wka).length+2+m.Body.length:=by rw[hb];simp;omega
 rw[show (zia m).length+1=((zia m).length - ZVa m.Fields)+1+ZVa m.Fields by omega];rw[show ((0,[]):Nat × List zga)=(([]:List UInt8).length,[]) from rfl];rw[wbb (zia m) _ _ m.Fields [] [] (13::10::m.Body) h (by rw[hb];rfl)];simp only[jBm];have hs:vna (zia m) ((m.Fields.flatMap wka).length,m.Fields.map fun f=>⟨f.Name,32::f.Value⟩)=.inr ((m.Fields.flatMap wka).length+2,m.Fields.map fun f=>⟨f.Name,32::f.Value⟩):=by
  unfold vna;dsimp only;have hd:(zia m).drop (m.Fields.flatMap wka).length=[]++13::10::m.Body:=by
   rw[hb,List.drop_left' rfl];rfl
  rw[if_pos (by omega),hd,qrb [] _ (by simp)];rfl
 rw[K9a,hs]
theorem wcb{m:zta}(h:(msgF m).Code=0):m.Fields.length<=60/\(∀f∈m.Fields,Kca f=0)/\(zia m).length<=12000/\Vpa 0 m.Body=none:=by
 unfold msgF at h;have hh:(WQa m.Fields).Code=0:=by
  by_cases hz:(WQa m.Fields).Code=0
  .exact hz
  rw[if_pos (by simpa using hz)]at h;exact h
 obtain ⟨q1,q2,q3⟩:=QAa _ hh;rw[hh,if_neg (by decide)]at h;have hl:¬12000 < (zia m).length:=fun e=>by rw[if_pos e]at h;exact absurd h (by decide)
 rw[if_neg hl]at h;refine ⟨by omega,q3,by omega,?_⟩;unfold bodyF at h;cases hb:Vpa 0 m.Body with
 | none=>rfl
 | some x=>
  rw[hb]at h;cases x <;> exact absurd h (by decide)
theorem rawM_rt{m:zta}(h:(msgF m).Code=0):rawM (zia m)=m:=by
 obtain ⟨h1,h2,h3,h4⟩:=wcb h;unfold rawM;rw[VDb h2];dsimp only;have hd:(zia m).drop ((m.Fields.flatMap wka).length+2)=m.Body:=by
  rw[wab,show m.Fields.flatMap wka++13::10::m.Body=(m.Fields.flatMap wka++ [13,10])++m.Body by simp,List.drop_left' (by simp)]
 rw[hd,yxb _ m.Body 0 _ (jAn _) h4 (jAn _),jEf];have:m.Fields.map (ywa ∘ fun f=>⟨f.Name,32::f.Value⟩)=m.Fields.map id:=jDf fun f hf=>by
  have hc:=h2 f hf;have hv:valP f.Value=true:=by
   rw[YRa]at hc;unfold ZBb at hc;cases e:valP f.Value with
   | true=>rfl
   | false=>
    rw[e]at hc;split at hc
    .exact absurd hc (by decide)
    split at hc
    .exact absurd hc (by decide)
    rw[if_pos (by decide)]at hc;exact absurd hc (by decide)
  show ywa ⟨f.Name,32::f.Value⟩=f;unfold ywa;rw[clean_rt hv]
 rw[this,List.map_id]
theorem readP_rt{m:zta}(h:(msgF m).Code=0):jSa (zia m)=(m,true):=by
 obtain ⟨h1,h2,h3,h4⟩:=wcb h;unfold jSa;rw[rawM_rt h,VDb h2,if_neg (by simp;omega),if_pos h]
theorem VEb{s:Str}(h:v4a s=true):(32:UInt8) ∉ s:=by
 intro hm;unfold v4a at h;simp only[jAh,jAw]at h;have:=h.2 _ hm;exact absurd this (by decide)
theorem VFb{s:Str}(h:qna s=true):(32:UInt8) ∉ s:=by
 unfold qna at h;simp only[jAh,decide_eq_true_eq,jAw]at h;obtain ⟨⟨⟨⟨h1,h2⟩,h3⟩,h4⟩,h5⟩:=h;unfold domP at h5;simp only[jAh,decide_eq_true_eq,jAw]at h5;intro hm;have hs:s=s.take (atP s)++s[atP s]::s.drop (atP s+1):=by
  rw[<-jCs h1,jEl]
 rw[hs]at hm;have hat:s[atP s]=64:=by
  have:=List.findIdx_getElem (xs:=s) (p:=(· ==64)) (w:=h1);exact (by simpa using this:s[List.findIdx (fun x=>x==64) s]=64)
 rcases jCc.1 hm with h6 | h6
 .exact absurd (h4 _ h6) (by decide)
 rcases jBh.1 h6 with h7 | h7
 .rw[hat]at h7;exact absurd h7 (by decide)
 exact absurd (h5.1.2 _ h7) (by decide)
theorem dec_no32(u:Nat):(32:UInt8) ∉ Lib.decDigits u:=by
 intro h;have:=jJa u _ h;have e:(32:UInt8).toNat=32:=rfl;omega
theorem yyb{x:Str}(r:Str)(hx:x≠ [])(h:(32:UInt8) ∉ x):yia (x++32::r)=x::yia r:=by
 unfold yia;rw[ZFb h,vsb];cases x with
 | nil=>exact absurd rfl hx
 | cons b t=>rfl
theorem Z2b{x:Str}(hx:x≠ [])(h:(32:UInt8) ∉ x):yia x=[x]:=by
 have e:=KYa (c:=32) (k:=x) (r:=[]) (x:=[]) (l:=[]) h rfl;rw[jBj]at e;unfold yia;rw[e];cases x with
 | nil=>exact absurd rfl hx
 | cons b t=>rfl
theorem Z3b(x y:Str)(l:List Str):ZLa x (y::l)=x++32::ZLa y l:=by unfold ZLa;simp
theorem kcb:∀(l:List Str) (x:Str),(∀z∈x::l,z≠ []/\(32:UInt8) ∉ z)->yia (ZLa x l)=x::l
 | [],x,h=>by
  have:=h x (by simp);rw[show ZLa x []=x by unfold ZLa;simp];exact Z2b this.1 this.2
 | y::l,x,h=>by
  have:=h x (by simp);rw[Z3b,yyb _ this.1 this.2,kcb l y (fun z hz=>h z (by simp at hz ⊢;exact .inr hz))]
theorem qsb(a:Str):angP ([60]++a++ [62])=some a:=by
 unfold angP;simp
theorem VGb:∀{s:Str},(∀c∈s,¬(65<=c.toNat/\c.toNat<=90))->lowP s=s
 | [],_=>rfl
 | b::s,h=>by
  have hb:=h b (by simp);have ih:=VGb (s:=s) fun c hc=>h c (by simp[hc])
  unfold lowP at ih ⊢;rw[jCh,ih];have:lowC b=b:=by
   unfold lowC;have e:(decide ((65:UInt8)<=b) && decide (b<=90))=false:=by
    cases hq:decide ((65:UInt8)<=b) && decide (b<=90) with
    | false=>rfl
    | true=>
     simp only[jAh,decide_eq_true_eq,jDv]at hq;exact absurd hq hb
   rw[e];rfl
  rw[this]
theorem VHb(n t:Str)(hn:∀c∈n,¬(65<=c.toNat/\c.toNat<=90))(ht:∀c∈t,¬(65<=c.toNat/\c.toNat<=90)):optP (n++ [61]++t) n=some t:=by
 have hl:lowP (n++ [61]++t)=n++ [61]++t:=VGb fun c hc=>by
  simp only[jCc,jBi]at hc;rcases hc with (hc | rfl) | hc
  .exact hn c hc
  .decide
  exact ht c hc
 unfold optP;rw[hl];have:(n++ [61]).isPrefixOf (n++ [61]++t)=true:=by rw[List.isPrefixOf_iff_prefix];exact jCn _ _
 rw[if_pos this]
 congr 1
 rw[List.drop_append_of_le_length (by simp)];simp
theorem VIb:∀k:Fin 8,v0b (Jna.getD k.val [])=some (k.val:Int)/\(∀c∈Jna.getD k.val [],¬(65<=c.toNat/\c.toNat<=90))/\(32:UInt8) ∉ Jna.getD k.val []:=by decide
theorem kdb{n:Int}(h:0<=n/\n<=7):v0b (KZa n)=some n/\(∀c∈KZa n,¬(65<=c.toNat/\c.toNat<=90))/\(32:UInt8) ∉ KZa n:=by
 have:=VIb ⟨n.toNat,by omega⟩;dsimp only at this;rw[show ((n.toNat:Nat):Int)=n by omega]at this;exact this
theorem argsP_T{c:zfa}(ok:wZa c):y7a c.Verb (argT c)=some c:=by
 have hu:=ok.used;have hs:=ok.size;have hno:=ok.note;have hadr:=ok.addr;obtain ⟨v,n,a,s,o,l⟩:=c;unfold V6a at hu;dsimp only at hu hs hno hadr ⊢;simp only[jAh,jBu,beq_iff_eq]at hu;obtain ⟨⟨⟨⟨u1,u2⟩,u3⟩,u4⟩,u5⟩:=hu;have hdd:∀c∈Lib.decDigits s.toNat,¬(65<=c.toNat/\c.toNat<=90):=fun c hc=>by have:=jJa _ c hc;omega
 unfold argT;dsimp only;rcases five v with rfl | rfl | rfl | rfl | ⟨h1,h2,h3,h5⟩
 .rw[if_pos rfl];have e2:a=[]:=by rcases u2 with (h | h) | h <;> first | omega | exact h
  have e3:s=0:=by rcases u3 with (h | h) | h <;> first | omega | exact h
  have e4:o=0:=by rcases u4 with h | h <;> first | omega | exact h
  have e5:l=false:=by rcases u5 with h | h <;> first | omega | exact h
  subst e2 e3 e4 e5;rfl
 .rw[if_neg (by omega),if_pos rfl];have e1:n=[]:=by rcases u1 with h | h <;> first | omega | exact h
  have e4:o=0:=by rcases u4 with h | h <;> first | omega | exact h
  have e5:l=false:=by rcases u5 with h | h <;> first | omega | exact h
  subst e1 e4 e5;by_cases hz:s=0
  .subst hz;rw[if_pos rfl,ap2,qsb];rfl
  rw[if_neg hz,ap22,qsb];have e:optP ([115,105,122,101,61]++Lib.decDigits s.toNat) zqb=some (Lib.decDigits s.toNat):=VHb zqb _ (by decide) hdd;simp only[jAc];rw[e];simp only[jAc];rw[kUb (by omega)];simp only[jCr];rw[show ((s.toNat:Nat):Int)=s by omega]
 .rw[if_neg (by omega),if_neg (by omega),if_pos rfl];have e1:n=[]:=by rcases u1 with h | h <;> first | omega | exact h
  have e3:s=0:=by rcases u3 with (h | h) | h <;> first | omega | exact h
  have e5:l=false:=by rcases u5 with h | h <;> first | omega | exact h
  subst e1 e3 e5;by_cases hz:o=1
  .subst hz;rw[if_pos rfl,ap3,qsb];rfl
  obtain ⟨t1,t2,t3⟩:=kdb hno;rw[if_neg hz,ap33,qsb];have e:optP ([110,111,116,105,102,121,61]++KZa o) notW=some (KZa o):=VHb notW _ (by decide) t2;simp only[jAc];rw[e];simp only[jAc];rw[t1];rfl
 .rw[if_neg (by omega),if_neg (by omega),if_neg (by omega),if_pos rfl];have e1:n=[]:=by rcases u1 with h | h <;> first | omega | exact h
  have e2:a=[]:=by rcases u2 with (h | h) | h <;> first | omega | exact h
  have e4:o=0:=by rcases u4 with h | h <;> first | omega | exact h
  subst e1 e2 e4;have hm:=kUb (m:=s.toNat) (by omega);cases l with
  | false=>
   simp only[jAs,if_false];rw[ap5,hm];simp only[jCr];rw[show ((s.toNat:Nat):Int)=s by omega]
  | true=>
   simp only[if_true];rw[ap55,hm];simp only[jAc];rw[if_pos (by decide),show ((s.toNat:Nat):Int)=s by omega]
 have n1:v≠1:=by simpa using h1
 have n2:v≠2:=by simpa using h2
 have n3:v≠3:=by simpa using h3
 have n5:v≠5:=by simpa using h5
 rw[if_neg n1,if_neg n2,if_neg n3,if_neg n5];have e1:n=[]:=by rcases u1 with h | h <;> first | exact absurd h n1 | exact h
 have e2:a=[]:=by rcases u2 with (h | h) | h <;> first | exact absurd h n2 | exact absurd h n3 | exact h
 have e3:s=0:=by rcases u3 with (h | h) | h <;> first | exact absurd h n2 | exact absurd h n5 | exact h
 have e4:o=0:=by rcases u4 with h | h <;> first | exact absurd h n3 | exact h
 have e5:l=false:=by rcases u5 with h | h <;> first | exact absurd h n5 | exact h
 subst e1 e2 e3 e4 e5;unfold y7a;rw[if_neg n1,if_neg n2,if_neg n3,if_neg n5]
theorem Z4b{c:zfa}(ok:wZa c):∀z∈argT c,z≠ []/\(32:UInt8) ∉ z/\z.length<=200:=by
 have hs:=ok.size;have hal:=V8a ok;have hdl:=yKa 6 c.Size.toNat (by omega);have ha32:(32:UInt8) ∉ c.Address:=by
  by_cases h:c.Address=[]
  .rw[h];simp
  refine VFb (ok.addr ?_);have hu:=ok.used;unfold V6a at hu;simp only[jAh,jBu,beq_iff_eq]at hu;rcases hu.1.1.1.2 with (h2 | h2) | h2
  .exact .inr ⟨h2,h⟩
  .exact .inl h2
  exact absurd h2 h
 have hd32:=dec_no32 c.Size.toNat;obtain ⟨_,_,hc32⟩:=kdb ok.note;have hcl:=V7a ok.note;have hbr:([60]++c.Address++ [62])≠ []/\(32:UInt8) ∉ ([60]++c.Address++ [62])/\([60]++c.Address++ [62]).length<=200:=⟨by simp,by simp[ha32],by simp;omega⟩;have hsz:([115,105,122,101,61]++Lib.decDigits c.Size.toNat)≠ []/\(32:UInt8) ∉ ([115,105,122,101,61]++Lib.decDigits c.Size.toNat)/\([115,105,122,101,61]++Lib.decDigits c.Size.toNat).length<=200:=⟨by simp,by simp[hd32],by simp;omega⟩;have hnt:([110,111,116,105,102,121,61]++KZa c.Notify)≠ []/\(32:UInt8) ∉ ([110,111,116,105,102,121,61]++KZa c.Notify)/\([110,111,116,105,102,121,61]++KZa c.Notify).length<=200:=⟨by simp,by simp[hc32],by simp;omega⟩;intro z hz;unfold argT at hz;split at hz
 .rename_i h1;have hn:=ok.name h1;have:=KVa hn;obtain rfl:=jBi.1 hz;exact ⟨by intro e;rw[e]at this;simp at this,VEb hn,by omega⟩
 split at hz
 .rcases jBh.1 hz with rfl | hz
  .exact hbr
  split at hz
  .cases hz
  obtain rfl:=jBi.1 hz;exact hsz
 split at hz
 .rcases jBh.1 hz with rfl | hz
  .exact hbr
  split at hz
  .cases hz
  obtain rfl:=jBi.1 hz;exact hnt
 split at hz
 .rcases jBh.1 hz with rfl | hz
  .exact ⟨Qjb _,hd32,by omega⟩
  split at hz
  .obtain rfl:=jBi.1 hz;exact ⟨by decide,by decide,by decide⟩
  cases hz
 cases hz
def upT(w:Str):Str:=w.map fun c=>c - 32
theorem Z5b:∀k:Fin 8,y1a ((k.val:Int)+1)≠ []/\(32:UInt8) ∉ y1a ((k.val:Int)+1)/\lowP (y1a ((k.val:Int)+1))=y1a ((k.val:Int)+1)/\upT (y1a ((k.val:Int)+1))≠ []/\(32:UInt8) ∉ upT (y1a ((k.val:Int)+1))/\lowP (upT (y1a ((k.val:Int)+1)))=y1a ((k.val:Int)+1)/\qib (y1a ((k.val:Int)+1))=(k.val:Int)+1:=by decide
theorem yzb{c:zfa}(ok:wZa c)(he:cmdF c=⟨0,0⟩){s x:Str}(hw:yia s=x::argT c)(hx:lowP x=y1a c.Verb)(hs:s.length<=4000)(hv:qib (y1a c.Verb)=c.Verb):ZUa s=(c,⟨0,0⟩):=by
 have h1:=ok.verb;unfold ZUa;rw[hw,if_neg (by omega)];have:ZUb (x::argT c)=c.Verb:=by show qib (lowP x)=_;rw[hx,hv]
 rw[this,if_neg (by omega)];simp only[List.drop_succ_cons,List.drop_zero];rw[argsP_T ok];show finP c=_;unfold finP;rw[he];rfl
theorem qKa(x:Ses)(a b:List UInt8):zTa x (a++b)=zTa (zTa x a) b:=List.foldl_append
theorem suff_no{l:List UInt8}{c:UInt8}(h:c≠10):([13,10]:List UInt8).isSuffixOf (l++ [c])=false:=by
 rw[jCp];intro e;obtain ⟨t,ht⟩:=jBk.1 e;have:=congrArg List.getLast? ht;simp at this;exact h this.symm
theorem suff_yes(l:List UInt8):([13,10]:List UInt8).isSuffixOf ((l++ [13])++ [10])=true:=jBk.2 ⟨l,by simp⟩
theorem keb(x:Ses)(hp:x.Server.Phase=0):∀(q p:List UInt8),(10:UInt8) ∉ q->(p++q).length<=4001->zTa (bufS x p) q=bufS x (p++q)
 | [],p,_,_=>by rw[jBj];rfl
 | c::q,p,h,hl=>by
  have hc:c≠10:=fun e=>h (by rw[e];simp)
  have e:v5a (bufS x p) c=bufS x (p++ [c]):=by
   unfold v5a;rw[if_pos (show (bufS x p).Server.Phase=0 from hp)];unfold JLa;rw[show (bufS x p).Server.Buffer=p from rfl,suff_no hc,if_neg (by decide),if_neg (by simp at hl ⊢;omega)];rfl
  show zTa (v5a (bufS x p) c) q=_;rw[e,keb x hp q (p++ [c]) (fun hm=>h (by simp[hm])) (by simpa using hl)];simp
theorem VJb(x:Ses)(hp:x.Server.Phase=0)(hb:x.Server.Buffer=[])(l:Str)(h10:(10:UInt8) ∉ l)(hl:l.length<=4000)(c:zfa)(hc:ZUa l=(c,⟨0,0⟩))(r:List UInt8):zTa x (l++13::10::r)=zTa (yta x c) r:=by
 have e0:bufS x []=x:=by
  have:bufS x []=bufS x x.Server.Buffer:=by rw[hb]
  rw[this];rfl
 have h1:=keb x hp (l++ [13]) [] (by simp[h10]) (by simp;omega);rw[e0,jBm]at h1;rw[show l++13::10::r=(l++ [13])++10::r by simp,qKa,h1];show zTa (v5a (bufS x (l++ [13])) 10) r=_;have e:v5a (bufS x (l++ [13])) 10=yta x c:=by
  unfold v5a;rw[if_pos (show (bufS x (l++ [13])).Server.Phase=0 from hp)];unfold JLa;rw[show (bufS x (l++ [13])).Server.Buffer=l++ [13] from rfl,suff_yes,if_pos rfl];have ht:((l++ [13])++ [10]).take (((l++ [13])++ [10]).length - 2)=l:=by simp
  dsimp only;rw[ht,hc,if_neg (show ¬(0:Int)=18 by decide),if_pos rfl];show yta (bufS x []) c=_;rw[e0]
 rw[e]
theorem VKb{s:Str}(h:qna s=true):(10:UInt8) ∉ s:=by
 unfold qna at h;simp only[jAh,decide_eq_true_eq,jAw]at h;obtain ⟨⟨⟨⟨h1,h2⟩,h3⟩,h4⟩,h5⟩:=h;unfold domP at h5;simp only[jAh,decide_eq_true_eq,jAw]at h5;intro hm;have hs:s=s.take (atP s)++s[atP s]::s.drop (atP s+1):=by
  rw[<-jCs h1,jEl]
 rw[hs]at hm;have hat:s[atP s]=64:=by
  have:=List.findIdx_getElem (xs:=s) (p:=(· ==64)) (w:=h1);exact (by simpa using this:s[List.findIdx (fun x=>x==64) s]=64)
 rcases jCc.1 hm with h6 | h6
 .exact absurd (h4 _ h6) (by decide)
 rcases jBh.1 h6 with h7 | h7
 .rw[hat]at h7;exact absurd h7 (by decide)
 exact absurd (h5.1.2 _ h7) (by decide)
theorem Z6b:∀k:Fin 8,(10:UInt8) ∉ Jna.getD k.val []:=by decide
theorem VLb{n:Int}(h:0<=n/\n<=7):(10:UInt8) ∉ KZa n:=by
 have:=Z6b ⟨n.toNat,by omega⟩;exact this
theorem note_in{n:Int}(h:qGa n=true):0<=n/\n<=7:=by
 unfold qGa at h;simpa using h
theorem wdb:∀(l:List zba),(l.map (·.Address)).Nodup->jLa l=l
 | [],_=>rfl
 | r::t,h=>by
  rw[jCh,List.nodup_cons]at h;have no:∀x∈t,kWa r.Address x=false:=fun x hx=>by
   unfold kWa;rw[beq_eq_false_iff_ne];intro e;exact h.1 (by rw[<-e];exact jEc hx)
  have e1:t.filter (kWa r.Address)=[]:=List.filter_eq_nil_iff.2 fun x hx=>by rw[no x hx];decide
  have e2:t.filter (fun x=> !kWa r.Address x)=t:=List.filter_eq_self.2 fun x hx=>by rw[no x hx];rfl
  rw[Vqa,e1,e2,wdb t h.2];rfl
theorem qLa(x:Ses)(c:UInt8)(b:List UInt8):zTa x (c::b)=zTa (v5a x c) b:=rfl
theorem QIa(x:Ses):zTa x []=x:=rfl
theorem qtb{x:Ses}{c:UInt8}(h:x.Server.Phase=1):v5a x c=Wka x c:=by
 unfold v5a;rw[if_neg (by rw[h];decide),if_pos h]
theorem ite34(p:Prop)[Decidable p]:(if p then (4:Int) else 3)≠0/\(if p then (4:Int) else 3)≠1/\(if p then (4:Int) else 3)≠2:=by
 split <;> decide
section
theorem VMb{s:Str}(h:v4a s=true):(10:UInt8) ∉ s:=by
 intro hm;unfold v4a at h;simp only[jAh,jAw]at h;exact absurd (h.2 _ hm) (by decide)
theorem dec_no10(u:Nat):(10:UInt8) ∉ Lib.decDigits u:=by
 intro h;have:=jJa u _ h;have e:(10:UInt8).toNat=10:=rfl;omega
theorem Z7b:∀k:Fin 8,(10:UInt8) ∉ y1a ((k.val:Int)+1):=by decide
theorem cmd_no10{c:zfa}(ok:wZa c):(10:UInt8) ∉ cmdT c:=by
 have hv:=ok.verb;have hw:=Z7b ⟨(c.Verb - 1).toNat,by omega⟩;dsimp only at hw;rw[show (((c.Verb - 1).toNat:Nat):Int)+1=c.Verb by omega]at hw;have ha:(10:UInt8) ∉ c.Address:=by
  by_cases h:c.Address=[]
  .rw[h];simp
  refine VKb (ok.addr ?_);have hu:=ok.used;unfold V6a at hu;simp only[jAh,jBu,beq_iff_eq]at hu;rcases hu.1.1.1.2 with (h2 | h2) | h2
  .exact .inr ⟨h2,h⟩
  .exact .inl h2
  exact absurd h2 h
 have hd:=dec_no10 c.Size.toNat;have hc:=VLb ok.note;unfold cmdT ZLa argT;split
 .rename_i h1;simp[hw,VMb (ok.name h1)]
 split
 .split <;> simp[hw,ha,hd]
 split
 .split <;> simp[hw,ha,hc]
 split
 .split <;> simp[hw,hd]
 simp[hw]
theorem VNb{c:zfa}(ok:wZa c):ZUa (cmdT c)=(c,⟨0,0⟩):=by
 have hverb:=ok.verb;obtain ⟨f1,f2,f3,f4,f5,f6,f7⟩:=Z5b ⟨(c.Verb - 1).toNat,by omega⟩;dsimp only at f1 f2 f3 f4 f5 f6 f7;rw[show (((c.Verb - 1).toNat:Nat):Int)+1=c.Verb by omega]at f1 f2 f3 f4 f5 f6 f7;have haw:=Z4b ok;have:=QCa ok;exact yzb ok (jib ok) (kcb (argT c) (y1a c.Verb) fun z hz=>by
  rcases jBh.1 hz with rfl | hz
  .exact ⟨f1,f2⟩
  exact ⟨(haw z hz).1,(haw z hz).2.1⟩) f3 (by omega) f7
theorem qub{x:Ses}(hp:x.Server.Phase=0)(hb:x.Server.Buffer=[]){c:zfa}(ok:wZa c)(b:List UInt8):zTa x (cmdT c++ [13,10]++b)=zTa (yta x c) b:=by
 have:=QCa ok;rw[jAx];exact VJb x hp hb (cmdT c) (cmd_no10 ok) (by omega) c (VNb ok) b
def sv(nm:Str)(sz mx:Int)(g ml:Bool)(f:Str)(tos:List zba):zsa:=⟨nm,sz,mx,0,g,ml,f,tos,[],[],0,0,false,0,false,false,0⟩
def dv(nm:Str)(sz mx:Int)(f:Str)(tos:List zba)(D:List UInt8)(d:Int):zsa:=⟨nm,sz,mx,1,true,true,f,tos,[],D,0,d,false,0,false,false,0⟩
def kv(nm:Str)(sz mx:Int)(f:Str)(tos:List zba)(D:List UInt8)(k:Int):zsa:=⟨nm,sz,mx,2,true,true,f,tos,[],D,0,0,true,k,true,false,0⟩
def xv(nm:Str)(sz mx:Int)(k:Int):zsa:=⟨nm,sz,mx,2,true,false,[],[],[],[],0,0,false,k,true,true,0⟩
def ev(nm:Str)(sz mx:Int):zsa:=⟨nm,sz,mx,0,true,false,[],[],[],[],0,0,false,0,false,false,1⟩
def jUa(nm:Str)(sz mx:Int):zra:=⟨250,[nm,Vib ++Lib.decDigits sz.toNat,Vwa++Lib.decDigits mx.toNat]⟩
def rOk:zra:=⟨250,[okW]⟩
def rMany:zra:=⟨452,[[109,97,110,121]]⟩
def rGo:zra:=⟨354,[[103,111,32,111,110]]⟩
def ZWa:zra:=⟨552,[jvb]⟩
def Qba:zra:=⟨503,[z6b]⟩
def rBye:zra:=⟨221,[[98,121,101]]⟩
def rId(nm:Str):zra:=⟨250,[nm++ [45]++Lib.decDigits 1]⟩
section
variable {nm:Str} {sz mx:Int} {f:Str} {R:List zra} {M:List zva}
theorem x_mail{b:Nat}(h:(b:Int)<=sz):yta ⟨sv nm sz mx true false [] [],R,M⟩ (Yua f b)=⟨sv nm sz mx true true f [],R++ [rOk],M⟩:=by
 show (if sz < (b:Int) then _ else _)=_;rw[if_neg (by omega)];rfl
theorem x_large{b:Nat}(h:sz < (b:Int)):yta ⟨sv nm sz mx true false [] [],R,M⟩ (Yua f b)=⟨sv nm sz mx true false [] [],R++ [ZWa],M⟩:=by
 show (if sz < (b:Int) then _ else _)=_;rw[if_pos h];rfl
theorem x_rcpt{K:Nat}(hk:mx=(K:Int))(done:List zba)(r:zba)(hn:((done++ [r]).map (·.Address)).Nodup):
 yta ⟨sv nm sz mx true true f (done.take K),R,M⟩ (Vsa r)=⟨sv nm sz mx true true f ((done++ [r]).take K),R++ [if done.length < K then rOk else rMany],M⟩:=by
 have e:addR ⟨sv nm sz mx true true f (done.take K),R,M⟩ (Vsa r)=done.take K++ [r]:=by
  refine wdb _ (List.Sublist.nodup ?_ hn);exact ((List.take_sublist K done).append (List.Sublist.refl [r])).map _
 have e1:yta ⟨sv nm sz mx true true f (done.take K),R,M⟩ (Vsa r)=WXa ⟨sv nm sz mx true true f (done.take K),R,M⟩ (Vsa r):=rfl;rw[e1];unfold WXa;rw[e];show (if mx < ((done.take K++ [r]).length:Int) then _ else _)=_;rw[jAl,jBq,List.length_singleton];by_cases h:done.length < K
 .rw[if_neg (by omega),if_pos h,jCm (by omega),jCm (by simp;omega)];rfl
 rw[if_pos (by omega),if_neg h,List.take_append_of_le_length (by omega)];rfl
theorem x_norcpt(r:zba):yta ⟨sv nm sz mx true false [] [],R,M⟩ (Vsa r)=⟨sv nm sz mx true false [] [],R++ [Qba],M⟩:=rfl
theorem x_data{T:List zba}(h:T≠ []):yta ⟨sv nm sz mx true true f T,R,M⟩ Jta=⟨dv nm sz mx f T [] 0,R++ [rGo],M⟩:=by
 cases T with
 | nil=>exact absurd rfl h
 | cons r t=>rfl
theorem x_nodata:yta ⟨sv nm sz mx true false [] [],R,M⟩ Jta=⟨sv nm sz mx true false [] [],R++ [Qba],M⟩:=rfl
theorem x_chunk{T:List zba}(h:T≠ []){b:Nat}(hb:b≠0):yta ⟨sv nm sz mx true true f T,R,M⟩ (K1a b)=⟨kv nm sz mx f T [] b,R,M⟩:=by
 cases T with
 | nil=>exact absurd rfl h
 | cons r t=>
  show (if (b:Int)=0 then _ else _)=_;rw[if_neg (by omega)];rfl
theorem VOb{b:Nat}(hb:b≠0):yta ⟨sv nm sz mx true false [] [],R,M⟩ (K1a b)=⟨xv nm sz mx b,R,M⟩:=by
 show (if (b:Int)=0 then _ else _)=_;rw[if_neg (by omega)];rfl
theorem jRb{s:zsa}{m:zta}(h1:s.Lost=0)(h2:jSa s.Data=(m,true))(h3:s.Count=0):KBa ⟨s,R,M⟩=abS ⟨{s with Count:=1},R++ [rId s.Name],M++ [⟨⟨s.From,s.To,s.Name++ [45]++Lib.decDigits 1⟩,m⟩]⟩:=by
 unfold KBa idS;dsimp only;rw[h1,h2,h3,if_neg (by decide),if_neg (by simp)];rfl
variable {T:List zba}
theorem JUa(D:List UInt8)(d:Int)(c:UInt8)(h0:¬(d=0/\c=46))(h1:¬(d=1/\c=13))(h2:d≠2)(hl:(D.length:Int) < sz):
 v5a ⟨dv nm sz mx f T D d,R,M⟩ c=⟨dv nm sz mx f T (D++ [c]) (if c=13 then 4 else if c=10/\d=4 then 0 else 3),R,M⟩:=by
 rw[qtb (x:=⟨dv nm sz mx f T D d,R,M⟩) rfl];unfold Wka;rw[show (⟨dv nm sz mx f T D d,R,M⟩:Ses).Server.Dots=d from rfl,if_neg h0,if_neg h1,if_neg (fun e=>h2 e.1),if_neg h2];have e:z4a ⟨dv nm sz mx f T D d,R,M⟩ c=⟨dv nm sz mx f T (D++ [c]) d,R,M⟩:=by
  unfold z4a;rw[if_pos (show ((⟨dv nm sz mx f T D d,R,M⟩:Ses).Server.Data.length:Int) < (⟨dv nm sz mx f T D d,R,M⟩:Ses).Server.Size from hl)];rfl
 rw[e];rfl
theorem d_mid:∀(q:Str) (c0:UInt8) (D:List UInt8),noCR (c0::q)=true->((D.length+q.length+2:Nat):Int)<=sz->
 zTa ⟨dv nm sz mx f T D (if c0=13 then 4 else 3),R,M⟩ (q++ [13,10])=⟨dv nm sz mx f T (D++q++ [13,10]) 0,R,M⟩
 | [],c0,D,h,hl=>by
  obtain ⟨i0,i1,i2⟩:=ite34 (c0=13);simp only[jBp]at hl;have s1:=JUa (nm:=nm) (sz:=sz) (mx:=mx) (f:=f) (T:=T) (R:=R) (M:=M) D (if c0=13 then 4 else 3) 13 (fun e=>i0 e.1) (fun e=>i1 e.1) i2 (by omega);rw[if_pos rfl]at s1;have s2:=JUa (nm:=nm) (sz:=sz) (mx:=mx) (f:=f) (T:=T) (R:=R) (M:=M) (D++ [13]) 4 10 (by decide) (by decide) (by decide) (by simp;omega);rw[if_neg (by decide),if_pos ⟨rfl,rfl⟩]at s2;rw[jBm,qLa,s1,qLa,s2,QIa];simp
 | c::q,c0,D,h,hl=>by
  obtain ⟨i0,i1,i2⟩:=ite34 (c0=13);obtain ⟨n1,n2⟩:=vMa.1 h;simp only[jAr]at hl;have s1:=JUa (nm:=nm) (sz:=sz) (mx:=mx) (f:=f) (T:=T) (R:=R) (M:=M) D (if c0=13 then 4 else 3) c (fun e=>i0 e.1) (fun e=>i1 e.1) i2 (by omega);have e:(if c=13 then (4:Int) else if c=10/\(if c0=13 then (4:Int) else 3)=4 then 0 else 3)=if c=13 then 4 else 3:=by
   by_cases h13:c=13
   .rw[if_pos h13,if_pos h13]
   rw[if_neg h13,if_neg h13,if_neg];rintro ⟨e1,e2⟩;by_cases hc:c0=13
   .exact n1 ⟨hc,e1⟩
   rw[if_neg hc]at e2;exact absurd e2 (by decide)
  rw[e]at s1;rw[jBv,qLa,s1,d_mid q c (D++ [c]) n2 (by simp;omega)];simp
theorem d_dot(D:List UInt8):v5a ⟨dv nm sz mx f T D 0,R,M⟩ 46=⟨dv nm sz mx f T D 1,R,M⟩:=by
 rw[qtb (x:=⟨dv nm sz mx f T D 0,R,M⟩) rfl];unfold Wka;rw[if_pos ⟨rfl,rfl⟩];rfl
theorem d_line(x:Str)(D:List UInt8)(h:noCR x=true)(hl:((D.length+x.length+2:Nat):Int)<=sz):
 zTa ⟨dv nm sz mx f T D 0,R,M⟩ (Kqa x++ [13,10])=⟨dv nm sz mx f T (D++x++ [13,10]) 0,R,M⟩:=by
 cases x with
 | nil=>
  simp only[jBp]at hl;have s1:=JUa (nm:=nm) (sz:=sz) (mx:=mx) (f:=f) (T:=T) (R:=R) (M:=M) D 0 13 (by decide) (by decide) (by decide) (by omega);rw[if_pos rfl]at s1;have s2:=JUa (nm:=nm) (sz:=sz) (mx:=mx) (f:=f) (T:=T) (R:=R) (M:=M) (D++ [13]) 4 10 (by decide) (by decide) (by decide) (by simp;omega);rw[if_neg (by decide),if_pos ⟨rfl,rfl⟩]at s2;rw[show Kqa []++ [13,10]=[13,10] from rfl,qLa,s1,qLa,s2,QIa];simp
 | cons c q=>
  simp only[jAr]at hl;by_cases hc:c=46
  .subst hc;have s1:=JUa (nm:=nm) (sz:=sz) (mx:=mx) (f:=f) (T:=T) (R:=R) (M:=M) D 1 46 (by decide) (by decide) (by decide) (by omega);rw[if_neg (by decide),if_neg (by decide)]at s1;have hm:=d_mid (nm:=nm) (sz:=sz) (mx:=mx) (f:=f) (T:=T) (R:=R) (M:=M) q 46 (D++ [46]) h (by simp;omega);rw[if_neg (by decide)]at hm;rw[show Kqa (46::q)++ [13,10]=46::46::(q++ [13,10]) from rfl,qLa,d_dot,qLa,s1,hm];simp
  have e:Kqa (c::q)=c::q:=by
   unfold Kqa dot0;rw[if_neg (by simpa using hc)]
  rw[e];have s1:=JUa (nm:=nm) (sz:=sz) (mx:=mx) (f:=f) (T:=T) (R:=R) (M:=M) D 0 c (fun e=>hc e.2) (by simp) (by decide) (by omega);rw[show (if c=13 then (4:Int) else if c=10/\(0:Int)=4 then 0 else 3)=if c=13 then 4 else 3 by
   rw[if_neg (show ¬(c=10/\(0:Int)=4) from fun e=>absurd e.2 (by decide))]]at s1
  have hm:=d_mid (nm:=nm) (sz:=sz) (mx:=mx) (f:=f) (T:=T) (R:=R) (M:=M) q c (D++ [c]) h (by simp;omega);rw[jBv,qLa,s1,hm];simp
theorem web(b:List UInt8):∀(ls:List Str) (D:List UInt8),(∀x∈ls,noCR x=true)->((D.length+(zJa ls).length:Nat):Int)<=sz->
 zTa ⟨dv nm sz mx f T D 0,R,M⟩ (yja ls++b)=zTa ⟨dv nm sz mx f T (D++zJa ls) 0,R,M⟩ b
 | [],D,_,_=>by rw[vwb,jBj];rfl
 | x::ls,D,h,hl=>by
  have hx:=Jsa x ls;have h1:=d_line (nm:=nm) (sz:=sz) (mx:=mx) (f:=f) (T:=T) (R:=R) (M:=M) x D (h x (by simp)) (by omega);have h2:=web b ls (D++x++ [13,10]) (fun y hy=>h y (by simp[hy])) (by simp;omega);have e:yja (x::ls)++b=(Kqa x++ [13,10])++(yja ls++b):=by unfold yja;simp
  rw[e,qKa,h1,h2,ZOa];simp
theorem d_cr(D:List UInt8):v5a ⟨dv nm sz mx f T D 1,R,M⟩ 13=⟨dv nm sz mx f T D 2,R,M⟩:=by
 rw[qtb (x:=⟨dv nm sz mx f T D 1,R,M⟩) rfl];unfold Wka;rw[if_neg (fun e=>absurd e.2 (by decide)),if_pos ⟨rfl,rfl⟩];rfl
theorem d_end{D:List UInt8}{m:zta}(h:jSa D=(m,true)):v5a ⟨dv nm sz mx f T D 2,R,M⟩ 10=⟨ev nm sz mx,R++ [rId nm],M++ [⟨⟨f,T,nm++ [45]++Lib.decDigits 1⟩,m⟩]⟩:=by
 rw[qtb (x:=⟨dv nm sz mx f T D 2,R,M⟩) rfl];unfold Wka;rw[if_neg (fun e=>absurd e.2 (by decide)),if_neg (fun e=>absurd e.2 (by decide)),if_pos ⟨rfl,rfl⟩];rw[show (⟨{(⟨dv nm sz mx f T D 2,R,M⟩:Ses).Server with Phase:=0,Dots:=0},R,M⟩:Ses)=⟨⟨nm,sz,mx,0,true,true,f,T,[],D,0,0,false,0,false,false,0⟩,R,M⟩ from rfl,jRb (m:=m) rfl h rfl];rfl
theorem qvb{x:Ses}{c:UInt8}(h:x.Server.Phase=2):v5a x c=(if (bif x.Server.Ignore then x else z4a x c).Server.Left - 1=0 then yna ⟨{(bif x.Server.Ignore then x else z4a x c).Server with Left:=(bif x.Server.Ignore then x else z4a x c).Server.Left - 1},(bif x.Server.Ignore then x else z4a x c).replies,(bif x.Server.Ignore then x else z4a x c).mails⟩ else ⟨{(bif x.Server.Ignore then x else z4a x c).Server with Left:=(bif x.Server.Ignore then x else z4a x c).Server.Left - 1},(bif x.Server.Ignore then x else z4a x c).replies,(bif x.Server.Ignore then x else z4a x c).mails⟩):=by
 unfold v5a;rw[if_neg (by rw[h];decide),if_neg (by rw[h];decide),if_pos h]
theorem k_keep(D:List UInt8)(k:Int)(c:UInt8)(hl:(D.length:Int) < sz):z4a ⟨kv nm sz mx f T D k,R,M⟩ c=⟨kv nm sz mx f T (D++ [c]) k,R,M⟩:=by
 unfold z4a;rw[if_pos (show ((⟨kv nm sz mx f T D k,R,M⟩:Ses).Server.Data.length:Int) < (⟨kv nm sz mx f T D k,R,M⟩:Ses).Server.Size from hl)];rfl
theorem k_feed:∀(q D:List UInt8),((D.length+q.length:Nat):Int)<=sz->zTa ⟨kv nm sz mx f T D ((q.length+1:Nat):Int),R,M⟩ q=⟨kv nm sz mx f T (D++q) 1,R,M⟩
 | [],D,_=>by rw[jBj];rfl
 | c::q,D,h=>by
  simp only[jAr]at h;have e:v5a ⟨kv nm sz mx f T D (((c::q).length+1:Nat):Int),R,M⟩ c=⟨kv nm sz mx f T (D++ [c]) ((q.length+1:Nat):Int),R,M⟩:=by
   rw[qvb (x:=⟨kv nm sz mx f T D _,R,M⟩) rfl];show (if (z4a _ c).Server.Left - 1=0 then yna ⟨{(z4a _ c).Server with Left:=(z4a _ c).Server.Left - 1},(z4a _ c).replies,(z4a _ c).mails⟩ else ⟨{(z4a _ c).Server with Left:=(z4a _ c).Server.Left - 1},(z4a _ c).replies,(z4a _ c).mails⟩)=_;rw[k_keep D _ c (by omega)];have e1:(((c::q).length+1:Nat):Int) - 1=((q.length+1:Nat):Int):=by simp only[jAr];omega
   show (if (((c::q).length+1:Nat):Int) - 1=0 then _ else (⟨kv nm sz mx f T (D++ [c]) ((((c::q).length+1:Nat):Int) - 1),R,M⟩:Ses))=_;rw[e1,if_neg (by omega)]
  rw[qLa,e,k_feed q (D++ [c]) (by simp;omega)];simp
theorem k_end{D:List UInt8}{c:UInt8}{m:zta}(hl:(D.length:Int) < sz)(h:jSa (D++ [c])=(m,true)):v5a ⟨kv nm sz mx f T D 1,R,M⟩ c=⟨ev nm sz mx,R++ [rId nm],M++ [⟨⟨f,T,nm++ [45]++Lib.decDigits 1⟩,m⟩]⟩:=by
 rw[qvb (x:=⟨kv nm sz mx f T D 1,R,M⟩) rfl];show (if (z4a _ c).Server.Left - 1=0 then yna ⟨{(z4a _ c).Server with Left:=(z4a _ c).Server.Left - 1},(z4a _ c).replies,(z4a _ c).mails⟩ else ⟨{(z4a _ c).Server with Left:=(z4a _ c).Server.Left - 1},(z4a _ c).replies,(z4a _ c).mails⟩)=_;rw[k_keep D _ c hl];refine (if_pos (show (1:Int) - 1=0 by decide)).trans ?_;show KBa ⟨⟨nm,sz,mx,0,true,true,f,T,[],D++ [c],0,0,true,0,false,false,0⟩,R,M⟩=_;rw[jRb (m:=m) rfl h rfl];rfl
theorem VPb:∀(q:List UInt8),q≠ []->zTa ⟨xv nm sz mx (q.length:Int),R,M⟩ q=⟨sv nm sz mx true false [] [],R++ [Qba],M⟩
 | [],h=>absurd rfl h
 | [c],_=>by
  rw[qLa,qvb (x:=⟨xv nm sz mx _,R,M⟩) rfl];rfl
 | c::d::q,_=>by
  have e:v5a ⟨xv nm sz mx ((c::d::q).length:Int),R,M⟩ c=⟨xv nm sz mx ((d::q).length:Int),R,M⟩:=by
   rw[qvb (x:=⟨xv nm sz mx _,R,M⟩) rfl];have e1:((c::d::q).length:Int) - 1=((d::q).length:Int):=by simp only[jAr];omega
   show (if ((c::d::q).length:Int) - 1=0 then _ else (⟨xv nm sz mx (((c::d::q).length:Int) - 1),R,M⟩:Ses))=_;rw[e1,if_neg (by simp only[jAr];omega)]
  rw[qLa,e];exact VPb (d::q) (by simp)
end
end
section
theorem yoa{x:Ses}(hp:x.Server.Phase=0)(hb:x.Server.Buffer=[]){c:zfa}(ok:wZa c):zTa x (cmdT c++ [13,10])=yta x c:=by
 have:=qub hp hb ok []
 rwa [jBj]at this
structure Ctx (n nm:Str) (m:zva) (sz mx:Int) (K:Nat):Prop where
 hn:v4a n=true
 hnm:v4a nm=true/\nm.length<=40
 mail:(QSa m).Code=0
 size:1<=sz/\sz<=12000
 many:mx=(K:Int)
 k:1<=K/\K<=60
 env:jka m.Envelope
 msg:yha m.Message
 n6:n.length<=10
def rG(nm:Str):zra:=⟨220,[nm]⟩
def repl(nm:Str)(sz mx:Int)(K j:Nat):List zra:=jUa nm sz mx::rOk::(List.range j).map fun i=>if i < K then rOk else rMany
def rhoP(nm:Str)(m:zva)(sz mx:Int)(K:Nat):List zra:=repl nm sz mx K m.Envelope.To.length++if rawP m.Message=true then [] else [rGo]
def s00(nm:Str)(sz mx:Int):Ses:=⟨sv nm sz mx false false [] [],[],[]⟩
def gotM(nm:Str)(m:zva)(K:Nat):zva:=⟨⟨m.Envelope.From,m.Envelope.To.take K,nm++ [45]++Lib.decDigits 1⟩,m.Message⟩
theorem VQb(nm:Str)(sz mx:Int)(K j:Nat):repl nm sz mx K (j+1)=repl nm sz mx K j++ [if j < K then rOk else rMany]:=by
 unfold repl;rw[List.range_succ,List.map_append];rfl
theorem YYa(nm:Str)(sz mx:Int)(K j:Nat):(repl nm sz mx K j).length=j+2:=by simp[repl]
section
variable {n nm:Str} {m:zva} {sz mx:Int} {K:Nat}
theorem Ctx.good(h:Ctx n nm m sz mx K):GoodM m:=k3a h.mail
theorem Ctx.nodup(h:Ctx n nm m sz mx K):(m.Envelope.To.map (·.Address)).Nodup:=by
 have:=(WTa h.mail).1;unfold envF at this;split at this
 .exact absurd this (by decide)
 split at this
 .exact absurd this (by decide)
 split at this
 .exact absurd this (by decide)
 exact (YTa this).2
theorem AB_1(n:Str)(m:zva):AB n m 1=cmdT (Jua n)++ [13,10]:=by
 rw[Vua];show []++cmB n m 1=_;rw[jBm];rfl
theorem AB_2(n:Str)(m:zva):AB n m 2=AB n m 1++(cmdT (Yua m.Envelope.From (zia m.Message).length)++ [13,10]):=by
 rw[Vua];rfl
theorem AB_r{j:Nat}(hj:j < m.Envelope.To.length):AB n m (j+3)=AB n m (j+2)++(cmdT (Vsa m.Envelope.To[j])++ [13,10]):=by
 rw[Vua]
 congr 1
 unfold cmB;rw[if_neg (by omega),if_neg (by omega),show j+2+1 - 3=j by omega,jAi hj]
theorem AB_l:AB n m (m.Envelope.To.length+3)=AB n m (m.Envelope.To.length+2)++if rawP m.Message=true then cmdT (K1a (zia m.Message).length)++ [13,10]++zia m.Message else cmdT Jta++ [13,10]:=by
 rw[Vua]
 congr 1
 have h1:¬m.Envelope.To.length+2+1=1:=by omega
 have h2:=(show m.Envelope.To.length+2+1 - 3=m.Envelope.To.length by omega);unfold cmB;rw[if_neg h1];by_cases h3:m.Envelope.To.length+2+1=2
 .omega
 rw[if_neg h3,h2,jBt (jAn _)]
theorem sv_1(h:Ctx n nm m sz mx K):zTa (s00 nm sz mx) (AB n m 1)=⟨sv nm sz mx true false [] [],[jUa nm sz mx],[]⟩:=by
 rw[AB_1,yoa (x:=s00 nm sz mx) rfl rfl (qbb h.hn)];rfl
theorem qwb(h:Ctx n nm m sz mx K):wZa (Yua m.Envelope.From (zia m.Message).length):=yjb h.good.frm (by have:=h.good.big;omega)
theorem sv_AB(h:Ctx n nm m sz mx K)(hb:((zia m.Message).length:Int)<=sz):∀j,j<=m.Envelope.To.length->
 zTa (s00 nm sz mx) (AB n m (j+2))=⟨sv nm sz mx true true m.Envelope.From ((m.Envelope.To.take j).take K),repl nm sz mx K j,[]⟩
 | 0,_=>by
  rw[AB_2,qKa,sv_1 h,yoa rfl rfl (qwb h),x_mail hb,List.take_zero,List.take_nil];rfl
 | j+1,hj=>by
  rw[AB_r (by omega),qKa,sv_AB h hb j (by omega),yoa rfl rfl (qcb (h.good.tos _ (jDj (by omega)))),x_rcpt h.many,VQb,jBq,Nat.min_eq_left (by omega),List.take_succ_eq_append_getElem (by omega)];rw[<-List.take_succ_eq_append_getElem (by omega)];exact h.nodup.sublist ((List.take_sublist _ _).map _)
theorem sx_AB(h:Ctx n nm m sz mx K)(hb:sz < ((zia m.Message).length:Int)):∀j,j<=m.Envelope.To.length->
 zTa (s00 nm sz mx) (AB n m (j+2))=⟨sv nm sz mx true false [] [],jUa nm sz mx::ZWa::List.replicate j Qba,[]⟩
 | 0,_=>by
  rw[AB_2,qKa,sv_1 h,yoa rfl rfl (qwb h),x_large hb];rfl
 | j+1,hj=>by
  rw[AB_r (by omega),qKa,sx_AB h hb j (by omega),yoa rfl rfl (qcb (h.good.tos _ (jDj (by omega)))),x_norcpt,List.replicate_succ'];rfl
theorem jSb(h:Ctx n nm m sz mx K):m.Envelope.To.take K≠ []:=by
 intro e;have:=congrArg List.length e;have h1:=h.good.many;have h2:=h.k;rw[jBq]at this;simp only[jBp]at this;omega
theorem yAb(h:Ctx n nm m sz mx K)(hb:((zia m.Message).length:Int)<=sz):∃U c,AB n m (m.Envelope.To.length+3)++QUa m=U++ [c]/\
 (zTa (s00 nm sz mx) U).replies=rhoP nm m sz mx K/\(zTa (s00 nm sz mx) U).mails=[]/\
 zTa (s00 nm sz mx) (U++ [c])=⟨ev nm sz mx,rhoP nm m sz mx K++ [rId nm],[gotM nm m K]⟩:=by
 have hr:=readP_rt (WTa h.mail).2;have hs:=sv_AB h hb m.Envelope.To.length (jAn _);rw[List.take_length]at hs;have hbig:=h.good.big;have hT:=jSb h;unfold QUa rhoP;rw[AB_l];cases hraw:rawP m.Message with
 | true=>
  rw[if_pos rfl,if_pos rfl,if_pos rfl,jBj,jBj];have h2:=vxb m.Message;obtain ⟨B,c,hB⟩:∃B c,zia m.Message=B++ [c]:=⟨(zia m.Message).dropLast,(zia m.Message).getLast (by intro e;rw[e]at h2;simp at h2),(List.dropLast_concat_getLast _).symm⟩;rw[hB]at hr h2 hb hbig ⊢;simp only[jAl,List.length_singleton]at h2 hb hbig;have e1:zTa (s00 nm sz mx) (AB n m (m.Envelope.To.length+2)++(cmdT (K1a (B++ [c]).length)++ [13,10]++B))=⟨kv nm sz mx m.Envelope.From (m.Envelope.To.take K) B 1,repl nm sz mx K m.Envelope.To.length,[]⟩:=by
   rw[qKa,hs,qub rfl rfl (QBa (by simp;omega)),x_chunk hT (by simp),jAl,List.length_singleton,k_feed B [] (by simp;omega),jBm]
  refine ⟨AB n m (m.Envelope.To.length+2)++(cmdT (K1a (B++ [c]).length)++ [13,10]++B),c,by simp,by rw[e1],by rw[e1],?_⟩;rw[qKa,e1,qLa,QIa,k_end (by omega) hr];rfl
 | false=>
  rw[if_neg (by decide),if_neg (by decide),if_neg (by decide)];have hj:=Wca (zia m.Message);rw[fl_end (QHb hraw),jBj]at hj;have e1:zTa (s00 nm sz mx) (AB n m (m.Envelope.To.length+2)++(cmdT Jta++ [13,10])++(yja (fl [] (zia m.Message)).1++ [46,13]))=⟨dv nm sz mx m.Envelope.From (m.Envelope.To.take K) (zia m.Message) 2,repl nm sz mx K m.Envelope.To.length++ [rGo],[]⟩:=by
   rw[qKa,qKa _ (AB n m (m.Envelope.To.length+2)),hs,yoa rfl rfl Jva,x_data hT,web [46,13] (fl [] (zia m.Message)).1 [] (K3a _) (by rw[hj];simpa using hb),jBm,hj,qLa,d_dot,qLa,d_cr,QIa]
  refine ⟨AB n m (m.Envelope.To.length+2)++(cmdT Jta++ [13,10])++(yja (fl [] (zia m.Message)).1++ [46,13]),10,by unfold qeb;simp,by rw[e1],by rw[e1],?_⟩;rw[qKa,e1,qLa,QIa,d_end hr];rfl
theorem sv_data(h:Ctx n nm m sz mx K)(hb:((zia m.Message).length:Int)<=sz)(hraw:rawP m.Message=false):(zTa (s00 nm sz mx) (AB n m (m.Envelope.To.length+3))).replies=rhoP nm m sz mx K:=by
 have hs:=sv_AB h hb m.Envelope.To.length (jAn _);rw[List.take_length]at hs;unfold rhoP;rw[AB_l,hraw,if_neg (by decide),if_neg (by decide),qKa,hs,yoa rfl rfl Jva,x_data (jSb h)]
theorem sx_last(h:Ctx n nm m sz mx K)(hb:sz < ((zia m.Message).length:Int)):zTa (s00 nm sz mx) (AB n m (m.Envelope.To.length+3))=⟨sv nm sz mx true false [] [],jUa nm sz mx::ZWa::List.replicate (m.Envelope.To.length+1) Qba,[]⟩:=by
 have h2:=vxb m.Message;have hbig:=h.good.big;rw[AB_l,qKa,sx_AB h hb _ (jAn _),List.replicate_succ'];split
 .rw[qub rfl rfl (QBa (by omega)),VOb (by omega),VPb _ (by intro e;rw[e]at h2;simp at h2)];rfl
 rw[yoa rfl rfl Jva,x_nodata];rfl
theorem wfb(x:Ses)(hp:x.Server.Phase=0)(hb:x.Server.Buffer=[]):(zTa x Kea).replies=x.replies++ [rBye]/\(zTa x Kea).mails=x.mails:=by
 unfold Kea;rw[yoa hp hb yib];exact ⟨rfl,rfl⟩
def okR(r:zra):Bool:=decide (200<=r.Code) && decide (r.Code<=599) && decide (1<=r.Lines.length) && decide (r.Lines.length<=3) && r.Lines.all fun s=>decide (s.length<=60) && !s.any rlnC
theorem Wma{r:zra}(h:okR r=true):ROk r/\(repB r).length<=200:=by
 unfold okR at h;simp only[jAh,decide_eq_true_eq,jAw,jCo]at h;obtain ⟨⟨⟨⟨h1,h2⟩,h3⟩,h4⟩,h5⟩:=h;refine ⟨⟨⟨r.Code.toNat,by omega,by omega,by omega⟩,by omega,fun s hs=>⟨by have:=(h5 s hs).1;omega,(h5 s hs).2⟩⟩,?_⟩;have key:∀l:List Str,(∀s∈l,s.length<=60)->(zJa (prn (dig3 r.Code.toNat) l)).length<=66 * l.length:=by
  intro l;induction l with
  | nil=>intro _;exact jAn _
  | cons x l ih=>
   intro hl;rw[k7b,Jsa];have:=ih fun s hs=>hl s (by simp[hs])
   have h1:=hl x (by simp);simp only[jAl,jAr,Wba];omega
 have:=key r.Lines fun s hs=>(h5 s hs).1
 unfold repB;omega
theorem qxb{s:Str}(h:v4a s=true):s.any rlnC=false:=by
 unfold v4a at h;simp only[jAh,jAw]at h;rw[jCj];intro c hc hr;unfold rlnC at hr;simp only[jBu,beq_iff_eq]at hr;rcases hr with rfl | rfl
 .exact absurd (h.2 _ hc) (by decide)
 exact absurd (h.2 _ hc) (by decide)
theorem yBb(u:Nat):(Lib.decDigits u).any rlnC=false:=by
 rw[jCj];intro c hc hr;have:=jJa u c hc;unfold rlnC at hr;simp only[jBu,beq_iff_eq]at hr;have e1:(13:UInt8).toNat=13:=rfl;have e2:(10:UInt8).toNat=10:=rfl;rcases hr with rfl | rfl <;> omega
theorem VRb{c:Int}{l:List Str}(hc:200<=c/\c<=599)(h1:1<=l.length/\l.length<=3)(h:∀s∈l,s.length<=60/\s.any rlnC=false):okR ⟨c,l⟩=true:=by
 unfold okR;simp only[jAh,decide_eq_true_eq,jAw,jCo];exact ⟨⟨⟨⟨hc.1,hc.2⟩,h1.1⟩,h1.2⟩,h⟩
theorem okR_G(h:Ctx n nm m sz mx K):okR (rG nm)=true:=VRb (by decide) ⟨jAn 1,by show 1<=3;decide⟩ fun s hs=>by
 have h1:=h.hnm.2;rw[jBi.1 hs];exact ⟨by omega,qxb h.hnm.1⟩
theorem wgb(h:Ctx n nm m sz mx K):okR (jUa nm sz mx)=true:=VRb (by decide) ⟨by show 1<=3;decide,by show 3<=3;decide⟩ fun s hs=>by
 have h1:=h.hnm.2;have h2:=yKa 6 sz.toNat (by have:=h.size;omega);have h3:=yKa 6 mx.toNat (by have:=h.many;have:=h.k;omega);rcases jBh.1 hs with rfl | hs
 .exact ⟨by omega,qxb h.hnm.1⟩
 rcases jBh.1 hs with rfl | hs
 .refine ⟨?_,by rw[List.any_append,yBb];rfl⟩;rw[jAl];have:Vib.length=5:=rfl;omega
 rw[jBi.1 hs];refine ⟨?_,by rw[List.any_append,yBb];rfl⟩;rw[jAl];have:Vwa.length=11:=rfl;omega
theorem okR_Id(h:Ctx n nm m sz mx K):okR (rId nm)=true:=VRb (by decide) ⟨jAn 1,by show 1<=3;decide⟩ fun s hs=>by
 have h1:=h.hnm.2;have h2:=yKa 6 1 (by omega);rw[jBi.1 hs];refine ⟨?_,by rw[List.any_append,List.any_append,yBb,qxb h.hnm.1];rfl⟩;rw[jAl,jAl];have:([45]:Str).length=1:=rfl;omega
theorem JVa:∀l:List zra,(∀r∈l,okR r=true)->(q2a l).length<=200 * l.length
 | [],_=>jAn _
 | r::l,h=>by
  have h1:=JVa l fun x hx=>h x (by simp[hx])
  have h2:=(Wma (h r (by simp))).2;unfold q2a at h1 ⊢;rw[jDq];simp only[jAl,jAr];omega
theorem VSb(h:Ctx n nm m sz mx K):∀r∈rhoP nm m sz mx K,okR r=true:=by
 intro r hr;unfold rhoP repl at hr;rcases jCc.1 hr with hr | hr
 .rcases jBh.1 hr with rfl | hr
  .exact wgb h
  rcases jBh.1 hr with rfl | hr
  .decide
  obtain ⟨i,_,rfl⟩:=jCd.1 hr;split <;> decide
 split at hr
 .cases hr
 rw[jBi.1 hr];decide
theorem cm_len(h:Ctx n nm m sz mx K):∀j,j<=m.Envelope.To.length->(AB n m (j+2)).length<=240 * j+300
 | 0,_=>by
  have h1:=QCa (qwb h);have hal:m.Envelope.From.length<=121:=by
   rcases h.good.frm with e | e
   .rw[e];simp
   exact Kda e
  have h7:=yKa 6 (zia m.Message).length (by have:=h.good.big;omega);have h6:=h.n6;have e1:(cmdT (Jua n)).length=6+n.length:=by simp[cmdT,ZLa,argT,Jua,y1a,KAa];omega
  have e2:(cmdT (Yua m.Envelope.From (zia m.Message).length)).length<=20+m.Envelope.From.length+7:=by
   have ea:argT (Yua m.Envelope.From (zia m.Message).length)=([60]++m.Envelope.From++ [62])::(if ((zia m.Message).length:Int)=0 then [] else [[115,105,122,101,61]++Lib.decDigits ((zia m.Message).length:Int).toNat]):=rfl;unfold cmdT ZLa;rw[ea];split
   .simp[Yua,y1a,KAa]
   simp[Yua,y1a,KAa];omega
  rw[AB_2,AB_1];simp only[jAl,jAr,jBp];omega
 | j+1,hj=>by
  have ih:=cm_len h j (by omega);have ht:=h.good.tos _ (jDj (show j < m.Envelope.To.length by omega));rw[AB_r (by omega)];have ha:=Kda ht.1;have hc:=V7a (note_in ht.2);have e2:(cmdT (Vsa m.Envelope.To[j])).length<=15+m.Envelope.To[j].Address.length+(KZa m.Envelope.To[j].Notify).length:=by
   have ea:argT (Vsa m.Envelope.To[j])=([60]++m.Envelope.To[j].Address++ [62])::(if m.Envelope.To[j].Notify=1 then [] else [[110,111,116,105,102,121,61]++KZa m.Envelope.To[j].Notify]):=rfl;unfold cmdT ZLa;rw[ea];split
   .simp[Vsa,y1a,KAa];omega
   simp[Vsa,y1a,KAa];omega
  simp only[jAl,jAr,jBp];omega
theorem VTb(h:Ctx n nm m sz mx K):(AB n m (m.Envelope.To.length+3)++QUa m++Kea).length<=40000:=by
 have h1:=cm_len h _ (jAn _);have h2:=h.good.many;have h3:=h.good.big;have h4:=Jxa m.Message h3;have h5:Kea.length=6:=by decide
 have h6:=QCa (QBa (n:=(zia m.Message).length) (by omega));have h7:(cmdT Jta).length=4:=by decide
 rw[AB_l];unfold QUa;split
 .simp only[jAl,jAr,jBp];omega
 simp only[jAl,jAr,jBp];omega
end
end
section
structure Fx (c0:zna) (s0:zsa) (g D U:List UInt8):Prop where
 out:(zDa c0 D).Out=U
 rep:g++q2a (zTa ⟨s0,[],[]⟩ U).replies=D
 dl:D.length<=40000
 ul:U.length<=40000
 ok:∀r∈(zTa ⟨s0,[],[]⟩ U).replies,okR r=true
theorem VUb{α:Type}{a b c:List α}(h:a <+:c)(h2:b <+:c):a <+:b∨b <+:a:=List.prefix_or_prefix_of_prefix h h2
theorem qyb{α:Type}{a b:List α}(h:a <+:b)(h2:b <+:a):a=b:=h.eq_of_length (Nat.le_antisymm h.length_le h2.length_le)
theorem WZa{a b:List zra}(h:a <+:b):q2a a <+:q2a b:=by
 obtain ⟨x,rfl⟩:=h;rw[wAa];exact jCn _ _
section
variable {c0:zna} {s0:zsa}
theorem Wna(o:K4a c0){a b:List UInt8}(h:a <+:b):(zDa c0 a).Out <+:(zDa c0 b).Out:=by
 obtain ⟨x,rfl⟩:=h;rw[wia o];exact jCn _ _
theorem qzb{a b:List UInt8}(h:a <+:b):(zTa ⟨s0,[],[]⟩ a).replies <+:(zTa ⟨s0,[],[]⟩ b).replies/\(zTa ⟨s0,[],[]⟩ a).mails <+:(zTa ⟨s0,[],[]⟩ b).mails:=by
 obtain ⟨x,rfl⟩:=h;rw[JSa];exact ⟨jCn _ _,jCn _ _⟩
theorem Woa(o:K4a c0)(hb:c0.Buffer=[]){a b:List UInt8}(h:a <+:b)(hl:b.length<=40000):Jya (zDa c0 a).C.Results (zDa c0 b).C.Results/\((zDa c0 a).C.Done=true->zDa c0 b=zDa c0 a)/\((zDa c0 a).C.Whole=true->(zDa c0 b).C.Whole=true)/\((zDa c0 b).Out=(zDa c0 a).Out->(zDa c0 b).C.Whole=(zDa c0 a).C.Whole):=by
 obtain ⟨x,rfl⟩:=h;rw[jAl]at hl;obtain ⟨ok,_,hbl,hbn⟩:=K5a o (d:=a) (by rw[hb];simp;omega);rw[hb]at hbl;simp only[jBp]at hbl;obtain ⟨_,hst,_⟩:=K5a ok (d:=x) (by omega);have w:=heard_wr (zDa c0 a).C x;refine ⟨?_,fun hd=>K7a o rfl (hbn hd) hd x,?_,?_⟩
 .rw[wia o];exact hst
 .rw[wia o];exact w.up
 rw[wia o];intro e;have e1:=congrArg List.length e;show (zDa (zDa c0 a).C x).C.Whole=_;refine w.eq ?_;simp only[pre,jAl]at e1;show _=0;omega
end
def finR(c:zna):List Int:=if c.Done=true then c.Results else ZQa c.Results (bif c.Whole then 4 else 2)
theorem fin_at{c:zna}{i:Nat}{x:Int}(h:c.Results[i]? =some x):(finR c)[i]? =some (if c.Done=true then x else ZPa (bif c.Whole then 4 else 2) x):=by
 unfold finR;split
 .exact h
 unfold ZQa;rw[jAk,h];rfl
theorem s00e(nm:Str)(sz mx:Int):(⟨sv nm sz mx false false [] [],[],[]⟩:Ses)=s00 nm sz mx:=rfl
section
variable {n nm:Str} {m:zva} {p:Bool} {sz mx:Int} {K:Nat}
theorem Kta(h:Ctx n nm m sz mx K):K4a (zZa n m p):=start_ok (by
 unfold qUa;rw[h.hn,if_neg (by decide)];exact h.mail) (by have:=h.n6;omega) h.env h.msg
theorem Vxa{a b:List UInt8}(h:a <+:b):(zTa (s00 nm sz mx) a).replies <+:(zTa (s00 nm sz mx) b).replies/\(zTa (s00 nm sz mx) a).mails <+:(zTa (s00 nm sz mx) b).mails:=qzb h
def l0(nm:Str)(m:zva)(sz mx:Int)(K:Nat):List zra:=rG nm::repl nm sz mx K m.Envelope.To.length
theorem l0_at(h:Ctx n nm m sz mx K):∀i r,(l0 nm m sz mx K)[i]? =some r->i<=m.Envelope.To.length+2->ROk r/\iQuo r.Code 100=if i < K+3 then 2 else 4:=by
 intro i r hi _;have hk:=h.k;have hok:okR r=true:=by
  rcases jBh.1 (jAj hi) with rfl | hm
  .exact okR_G h
  exact VSb h r (List.mem_append_left _ hm)
 refine ⟨(Wma hok).1,?_⟩
 match i,hi with
 | 0,hi=>cases hi;rw[if_pos (by omega)];rfl
 | 1,hi=>cases hi;rw[if_pos (by omega)];rfl
 | 2,hi=>cases hi;rw[if_pos (by omega)];rfl
 | j+3,hi=>
  have h2:((List.range m.Envelope.To.length).map fun i=>if i < K then rOk else rMany)[j]? =some r:=hi;rw[jAk]at h2;obtain ⟨x,hx,rfl⟩:=jAg.1 h2;have:=(jAd.1 hx).2;rw[List.getElem_range]at this;subst this;by_cases hj:j < K
  .rw[if_pos hj,if_pos (by omega)];rfl
  rw[if_neg hj,if_neg (by omega)];rfl
theorem yCb(h:Ctx n nm m sz mx K){e:Nat}(he:e<=m.Envelope.To.length+3):zDa (zZa n m p) (q2a ((l0 nm m sz mx K).take e))=stT n m p K e:=
 Q6b (Kta h) h.good.many.1 h.k.1 _ (l0_at h) e he (by unfold l0;rw[jAr,YYa];omega)
theorem l0_all(h:Ctx n nm m sz mx K):zDa (zZa n m p) (q2a (l0 nm m sz mx K))=stT n m p K (m.Envelope.To.length+3):=by
 have:=yCb (p:=p) h (jAn _)
 rwa [jCm (by unfold l0;rw[jAr,YYa];omega)]at this
def D1(nm:Str)(m:zva)(sz mx:Int)(K:Nat):List UInt8:=repB (rG nm)++q2a (rhoP nm m sz mx K)
theorem D1_l0:D1 nm m sz mx K=q2a (l0 nm m sz mx K)++q2a (if rawP m.Message=true then [] else [rGo]):=by
 unfold D1 rhoP l0;rw[wAa,<-jAx];rfl
theorem c_D1(h:Ctx n nm m sz mx K):zDa (zZa n m p) (D1 nm m sz mx K)=stF n m p K:=by
 rw[D1_l0];cases hr:rawP m.Message with
 | true=>rw[if_pos rfl,show q2a []=[] from rfl,jBj,l0_all h,st_raw hr]
 | false=>rw[if_neg (by decide),y3a,Wfa (Kta h) (l0_all h) rfl rfl (Wma (r:=rGo) (by decide)).1,st_data h.good.many.1 h.k.1 hr rfl]
theorem c_D2(h:Ctx n nm m sz mx K):zDa (zZa n m p) (D1 nm m sz mx K++repB (rId nm))=stE n m p K:=by
 rw[Wfa (Kta h) (c_D1 h) rfl rfl (Wma (okR_Id h)).1,st_last h.good.many.1 rfl]
theorem JWa(h:Ctx n nm m sz mx K)(hb:((zia m.Message).length:Int)<=sz):Fx (zZa n m p) (sv nm sz mx false false [] []) (repB (rG nm)) (D1 nm m sz mx K++repB (rId nm)++repB rBye) (AB n m (m.Envelope.To.length+3)++QUa m++Kea)/\
 (zTa (s00 nm sz mx) (AB n m (m.Envelope.To.length+3)++QUa m++Kea)).mails=[gotM nm m K]:=by
 obtain ⟨U,c,hU,_,_,h3⟩:=yAb h hb;rw[<-hU]at h3;have hR:(zTa (s00 nm sz mx) (AB n m (m.Envelope.To.length+3)++QUa m++Kea)).replies=rhoP nm m sz mx K++ [rId nm]++ [rBye]/\(zTa (s00 nm sz mx) (AB n m (m.Envelope.To.length+3)++QUa m++Kea)).mails=[gotM nm m K]:=by
  rw[qKa,h3];exact wfb ⟨ev nm sz mx,_,_⟩ rfl rfl
 have hok:∀r∈rhoP nm m sz mx K++ [rId nm]++ [rBye],okR r=true:=by
  intro r hr;rcases jCc.1 hr with hr | hr
  .rcases jCc.1 hr with hr | hr
   .exact VSb h r hr
   rw[jBi.1 hr];exact okR_Id h
  rw[jBi.1 hr];decide
 have hD:repB (rG nm)++q2a (rhoP nm m sz mx K++ [rId nm]++ [rBye])=D1 nm m sz mx K++repB (rId nm)++repB rBye:=by
  rw[wAa,wAa,y3a,y3a,<-jAx,<-jAx];rfl
 refine ⟨⟨?_,?_,?_,VTb h,?_⟩,hR.2⟩
 .rw[K7a (Kta h) (c_D2 h) rfl rfl];rfl
 .rw[s00e nm sz mx,hR.1,hD]
 .have h1:=JVa _ hok;have h2:=(Wma (okR_G h)).2;have h3:=h.good.many;have h4:(rhoP nm m sz mx K).length<=m.Envelope.To.length+3:=by
   unfold rhoP;rw[jAl,YYa];split <;> simp
  rw[<-hD,jAl];simp only[jAl,List.length_singleton]at h1;omega
 rw[s00e nm sz mx,hR.1];exact hok
theorem c_bad(h:Ctx n nm m sz mx K):zDa (zZa n m p) (q2a [rG nm,jUa nm sz mx,ZWa])=stX n m p:=by
 have h2:=yCb (p:=p) h (e:=2) (by omega);have e:(l0 nm m sz mx K).take 2=[rG nm,jUa nm sz mx]:=rfl;rw[e]at h2;rw[show [rG nm,jUa nm sz mx,ZWa]=[rG nm,jUa nm sz mx]++ [ZWa] from rfl,wAa,y3a,Wfa (Kta h) h2 rfl rfl (Wma (r:=ZWa) (by decide)).1,st_fail rfl h.good.many.1]
theorem fx_bad(h:Ctx n nm m sz mx K)(hb:sz < ((zia m.Message).length:Int)):∃D,Fx (zZa n m p) (sv nm sz mx false false [] []) (repB (rG nm)) D (AB n m (jj p m.Envelope.To.length 2)++Kea)/\zDa (zZa n m p) D=stX n m p/\
 (zTa (s00 nm sz mx) (AB n m (jj p m.Envelope.To.length 2)++Kea)).mails=[]:=by
 obtain ⟨k,hk,hf⟩:∃k,k<=61/\zTa (s00 nm sz mx) (AB n m (jj p m.Envelope.To.length 2))=⟨sv nm sz mx true false [] [],jUa nm sz mx::ZWa::List.replicate k Qba,[]⟩:=by
  have hm:=h.good.many;unfold jj;split
  .exact ⟨_,by omega,sx_last h hb⟩
  exact ⟨0,by omega,sx_AB h hb 0 (by omega)⟩
 have hR:(zTa (s00 nm sz mx) (AB n m (jj p m.Envelope.To.length 2)++Kea)).replies=(jUa nm sz mx::ZWa::List.replicate k Qba)++ [rBye]/\(zTa (s00 nm sz mx) (AB n m (jj p m.Envelope.To.length 2)++Kea)).mails=[]:=by
  rw[qKa,hf];exact wfb ⟨sv nm sz mx true false [] [],_,_⟩ rfl rfl
 have hok:∀r∈(jUa nm sz mx::ZWa::List.replicate k Qba)++ [rBye],okR r=true:=by
  intro r hr;rcases jCc.1 hr with hr | hr
  .rcases jBh.1 hr with rfl | hr
   .exact wgb h
   rcases jBh.1 hr with rfl | hr
   .decide
   rw[List.eq_of_mem_replicate hr];decide
  rw[jBi.1 hr];decide
 have e1:repB (rG nm)++q2a ((jUa nm sz mx::ZWa::List.replicate k Qba)++ [rBye])=q2a [rG nm,jUa nm sz mx,ZWa]++q2a (List.replicate k Qba++ [rBye]):=by
  rw[<-wAa,<-y3a,<-wAa];rfl
 have hc:zDa (zZa n m p) (repB (rG nm)++q2a ((jUa nm sz mx::ZWa::List.replicate k Qba)++ [rBye]))=stX n m p:=by
  rw[e1,K7a (Kta h) (c_bad h) rfl rfl]
 refine ⟨_,⟨?_,rfl,?_,?_,?_⟩,?_,hR.2⟩
 .rw[s00e nm sz mx,hR.1,hc];rfl
 .have h1:=JVa _ hok;have h2:=(Wma (okR_G h)).2;rw[s00e nm sz mx,hR.1,jAl];simp only[jAl,jAr,List.length_replicate,jBp]at h1;simp only[jBv]at h1 ⊢;omega
 .have hl:=(AB_le n m (show jj p m.Envelope.To.length 2<=m.Envelope.To.length+3 by unfold jj;split <;> omega)).length_le;have:=VTb h;simp only[jAl]at this ⊢;omega
 .rw[s00e nm sz mx,hR.1];exact hok
 rw[s00e nm sz mx,hR.1];exact hc
structure Outc (nm:Str) (m:zva) (K:Nat) (M:List zva) (r:List Int):Prop where
 mails:M=[]∨M=[gotM nm m K]
 len:r.length=m.Envelope.To.length
 res:∀i x,r[i]? =some x->(1<=x/\x<=4)/\(x=1->M=[gotM nm m K]/\i < K)/\(M=[gotM nm m K]->i < K->x=1∨x=4)
theorem VVb(h:Ctx n nm m sz mx K){d:List UInt8}(hl:d.length<=40000):(zDa (zZa n m p) d).C.Results.length=m.Envelope.To.length/\(finR (zDa (zZa n m p) d).C).length=m.Envelope.To.length:=by
 obtain ⟨ok,_⟩:=K5a (Kta (p:=p) h) (d:=d) (by show 0+_<=_;omega);have hm:(zDa (zZa n m p) d).C.Mail=m:=by
  have o:=Kta (p:=p) h;unfold zDa;rw[if_neg (show ¬(zZa n m p).Done=true from Bool.false_ne_true)];exact (JGa _ [] ⟨zZa n m p,[]⟩ o.inv (o.opn rfl) rfl).same.2.1
 have h1:=ok.inv.len;rw[hm]at h1;refine ⟨h1,?_⟩;unfold finR;split
 .exact h1
 rw[vAb,h1]
theorem outc_bad(h:Ctx n nm m sz mx K){D U d u:List UInt8}(hx:Fx (zZa n m p) (sv nm sz mx false false [] []) (repB (rG nm)) D U)(hc:zDa (zZa n m p) D=stX n m p)(hm:(zTa (s00 nm sz mx) U).mails=[])(hd:d <+:D)(hu:u <+:U):
 Outc nm m K (zTa (s00 nm sz mx) u).mails (finR (zDa (zZa n m p) d).C):=by
 have hdl:=hd.length_le;have hD:=hx.dl;obtain ⟨l1,l2⟩:=VVb (p:=p) h (d:=d) (by omega);have hM:(zTa (s00 nm sz mx) u).mails=[]:=by
  have:=(Vxa (nm:=nm) (sz:=sz) (mx:=mx) hu).2;rw[hm]at this;exact List.prefix_nil.1 this
 obtain ⟨r1,r2,_,_⟩:=Woa (Kta (p:=p) h) rfl hd hD;refine ⟨.inl hM,l2,fun i x hi=>?_⟩;have hlt:i < m.Envelope.To.length:=by have:=(jAd.1 hi).1;omega
 obtain ⟨y,hy⟩:∃y,(zDa (zZa n m p) d).C.Results[i]? =some y:=⟨_,jAi (by omega)⟩;have hX:(stX n m p).C.Results[i]? =some 3:=by
  show (List.replicate _ (3:Int))[i]? =_;rw[List.getElem?_replicate,if_pos hlt]
 have hy3:y≠0->y=3:=fun hne=>by
  have:=r1 i y hy hne;rw[hc,hX]at this;exact (Option.some.inj this).symm
 rw[fin_at hy]at hi;have hx' :=Option.some.inj hi;have:x=2∨x=3∨x=4:=by
  by_cases hdn:(zDa (zZa n m p) d).C.Done=true
  .rw[if_pos hdn]at hx';have:=r2 hdn;rw[hc]at this;rw[<-this,hX]at hy;have:=Option.some.inj hy;omega
  rw[if_neg hdn]at hx';unfold ZPa at hx';split at hx'
  .cases hw:(zDa (zZa n m p) d).C.Whole <;> rw[hw]at hx' <;> simp at hx' <;> omega
  rename_i h0;have:=hy3 h0;omega
 refine ⟨by omega,fun e=>by omega,fun e=>?_⟩;rw[hM]at e;cases e
theorem VWb(h:Ctx n nm m sz mx K)(hb:((zia m.Message).length:Int)<=sz){d u:List UInt8}(hd:d <+:D1 nm m sz mx K++repB (rId nm)++repB rBye)(hu:u <+:AB n m (m.Envelope.To.length+3)++QUa m++Kea)
 (hdu:d <+:repB (rG nm)++q2a (zTa (s00 nm sz mx) u).replies) (hud:u <+:(zDa (zZa n m p) d).Out):
 Outc nm m K (zTa (s00 nm sz mx) u).mails (finR (zDa (zZa n m p) d).C):=by
 obtain ⟨hx,hmU⟩:=JWa (p:=p) h hb;obtain ⟨U,c,hU,s1,s2,s3⟩:=yAb h hb;have o:=Kta (p:=p) h;have hdl:=hd.length_le;have hD:=hx.dl;obtain ⟨l1,l2⟩:=VVb (p:=p) h (d:=d) (by omega);have hcD:zDa (zZa n m p) (D1 nm m sz mx K++repB (rId nm)++repB rBye)=stE n m p K:=K7a o (c_D2 h) rfl rfl _;have hD1:D1 nm m sz mx K <+:D1 nm m sz mx K++repB (rId nm)++repB rBye:=by rw[jAx];exact jCn _ _
 have hcase:((zTa (s00 nm sz mx) u).mails=[]/\d <+:D1 nm m sz mx K)∨((zTa (s00 nm sz mx) u).mails=[gotM nm m K]/\U++ [c] <+:u):=by
  rw[hU]at hu;rcases VUb hu (jCn (U++ [c]) Kea) with h1 | h1
  .rcases List.prefix_concat_iff.1 h1 with h1 | h1
   .refine .inr ⟨?_,by rw[h1];exact List.prefix_refl _⟩;rw[h1,s3]
   left;obtain ⟨r1,r2⟩:=Vxa (nm:=nm) (sz:=sz) (mx:=mx) h1;rw[s2]at r2;rw[s1]at r1;refine ⟨List.prefix_nil.1 r2,hdu.trans ?_⟩;exact jDt _ |>.2 (WZa r1)
  refine .inr ⟨?_,h1⟩;have r1:=(Vxa (nm:=nm) (sz:=sz) (mx:=mx) h1).2;have r2:=(Vxa (nm:=nm) (sz:=sz) (mx:=mx) hu).2;rw[s3]at r1;rw[<-hU,hmU]at r2;exact (qyb r1 r2).symm
 refine ⟨hcase.imp (·.1) (·.1),l2,fun i x hi=>?_⟩;have hlt:i < m.Envelope.To.length:=by have:=(jAd.1 hi).1;omega
 obtain ⟨y,hy⟩:∃y,(zDa (zZa n m p) d).C.Results[i]? =some y:=⟨_,jAi (by omega)⟩;rw[fin_at hy]at hi;have hx' :=Option.some.inj hi;have hF:(stF n m p K).C.Results[i]? =some (if i < K then 0 else 2):=by
  show (resL K _ _)[i]? =_;rw[WVa hlt];by_cases hk:i < K
  .rw[if_pos hk,if_neg (by omega)]
  rw[if_neg hk,if_pos (by omega)]
 have hE:(stE n m p K).C.Results[i]? =some (if i < K then 1 else 2):=by
  show (ZQa (resL K _ _) 1)[i]? =_;have hF' :(resL K m.Envelope.To.length (m.Envelope.To.length+3))[i]? =some (if i < K then 0 else 2):=hF;unfold ZQa;rw[jAk,hF'];by_cases hk:i < K
  .rw[if_pos hk,if_pos hk];rfl
  rw[if_neg hk,if_neg hk];rfl
 have before:d <+:D1 nm m sz mx K->(zDa (zZa n m p) d).C.Done=false/\(y=0∨(y=2/\¬i < K)):=fun hd1=>by
  obtain ⟨r1,r2,_,_⟩:=Woa o rfl hd1 (by have:=hD1.length_le;omega);rw[c_D1 h]at r1 r2;refine ⟨?_,?_⟩
  .cases hdn:(zDa (zZa n m p) d).C.Done with
   | false=>rfl
   | true=>
    have:=congrArg (fun t:Talk=>t.C.Done) (r2 hdn);rw[show (stF n m p K).C.Done=false from rfl,hdn]at this;cases this
  by_cases h0:y=0
  .exact .inl h0
  have:=r1 i y hy h0;rw[hF]at this;have:=Option.some.inj this;by_cases hk:i < K
  .rw[if_pos hk]at this;omega
  rw[if_neg hk]at this;exact .inr ⟨this.symm,hk⟩
 have tail:∀w:Bool,(if y=0 then (bif w then 4 else 2:Int) else y)=ZPa (bif w then 4 else 2) y:=fun w=>rfl
 rcases hcase with ⟨hM,hd1⟩ | ⟨hM,hU1⟩
 .obtain ⟨b1,b2⟩:=before hd1;rw[b1,if_neg (by decide),<-tail]at hx';have:x=2∨x=4:=by
   rcases b2 with b2 | ⟨b2,_⟩
   .rw[if_pos b2]at hx';cases hw:(zDa (zZa n m p) d).C.Whole <;> rw[hw]at hx' <;> simp at hx' <;> omega
   rw[if_neg (by omega)]at hx';omega
  exact ⟨by omega,fun e=>by omega,fun e=>by rw[hM]at e;cases e⟩
 have hW:d <+:D1 nm m sz mx K->(zDa (zZa n m p) d).C.Whole=true:=fun hd1=>by
  obtain ⟨_,_,_,r4⟩:=Woa o rfl hd1 (by have:=hD1.length_le;omega);have e1:=Wna o hd1;rw[c_D1 h]at r4 e1;rw[<-r4 (qyb ?_ e1)]
  .rfl
  show AB n m _++QUa m <+:_;rw[hU];exact hU1.trans hud
 rcases VUb hd hD1 with hd1 | hd1
 .obtain ⟨b1,b2⟩:=before hd1;rw[b1,if_neg (by decide),<-tail,hW hd1]at hx';simp only[cond_true]at hx';rcases b2 with b2 | ⟨b2,b3⟩
  .rw[if_pos b2]at hx';exact ⟨by omega,fun e=>by omega,fun _ _=>.inr hx'.symm⟩
  rw[if_neg (by omega)]at hx';exact ⟨by omega,fun e=>by omega,fun _ hk=>absurd hk b3⟩
 obtain ⟨r1,r2,_,_⟩:=Woa o rfl hd hD;obtain ⟨_,_,r3,_⟩:=Woa o rfl hd1 (by omega);rw[c_D1 h]at r3;rw[hcD]at r1 r2;by_cases hdn:(zDa (zZa n m p) d).C.Done=true
 .rw[if_pos hdn]at hx';have:=r2 hdn;rw[<-this,hE]at hy;have hy' :=Option.some.inj hy;by_cases hk:i < K
  .rw[if_pos hk]at hy';exact ⟨by omega,fun _=>⟨hM,hk⟩,fun _ _=>.inl (by omega)⟩
  rw[if_neg hk]at hy';exact ⟨by omega,fun e=>by omega,fun _ e=>absurd e hk⟩
 rw[if_neg hdn,r3 rfl,<-tail]at hx';simp only[cond_true]at hx';by_cases h0:y=0
 .rw[if_pos h0]at hx';exact ⟨by omega,fun e=>by omega,fun _ _=>.inr hx'.symm⟩
 rw[if_neg h0]at hx';have:=r1 i y hy h0;rw[hE]at this;have:=Option.some.inj this;by_cases hk:i < K
 .rw[if_pos hk]at this;exact ⟨by omega,fun _=>⟨hM,hk⟩,fun _ _=>.inl (by omega)⟩
 rw[if_neg hk]at this;exact ⟨by omega,fun e=>by omega,fun _ e=>absurd e hk⟩
theorem sv_take(h:Ctx n nm m sz mx K)(hb:((zia m.Message).length:Int)<=sz):∀e,e<=m.Envelope.To.length+2->(zTa (s00 nm sz mx) (AB n m e)).replies=(repl nm sz mx K m.Envelope.To.length).take e
 | 0,_=>by rw[List.take_zero,show AB n m 0=[] from rfl,QIa];rfl
 | 1,_=>by rw[sv_1 h];unfold repl;rw[List.take_succ_cons,List.take_zero]
 | j+2,he=>by
  rw[sv_AB h hb j (by omega)];unfold repl;rw[List.take_succ_cons,List.take_succ_cons,<-List.map_take,List.take_range,Nat.min_eq_left (by omega)]
theorem l0_succ(nm:Str)(m:zva)(sz mx:Int)(K e:Nat):q2a ((l0 nm m sz mx K).take (e+1))=repB (rG nm)++q2a ((repl nm sz mx K m.Envelope.To.length).take e):=by
 unfold l0 q2a;rw[List.take_succ_cons,jDq]
theorem Z8b(h:Ctx n nm m sz mx K)(hb:((zia m.Message).length:Int)<=sz){d u:List UInt8}(hd:d <+:D1 nm m sz mx K++repB (rId nm)++repB rBye)(hu:u <+:AB n m (m.Envelope.To.length+3)++QUa m++Kea)
 (hdu:d=repB (rG nm)++q2a (zTa (s00 nm sz mx) u).replies) (hud:u=(zDa (zZa n m p) d).Out):
 (zTa (s00 nm sz mx) u).mails=[gotM nm m K]/\finR (zDa (zZa n m p) d).C=ZQa (resL K m.Envelope.To.length (m.Envelope.To.length+3)) 1:=by
 obtain ⟨hx,hmU⟩:=JWa (p:=p) h hb;obtain ⟨U,c,hU,s1,s2,s3⟩:=yAb h hb;have o:=Kta (p:=p) h;have rm:∀{a:List UInt8},a <+:u->repB (rG nm)++q2a (zTa (s00 nm sz mx) a).replies <+:d:=fun {a} ha=>by
  rw[hdu];exact jDt _ |>.2 (WZa (Vxa (nm:=nm) (sz:=sz) (mx:=mx) ha).1)
 have hj:∀e,e<=m.Envelope.To.length+3->e<=jj p m.Envelope.To.length e:=fun e he=>by unfold jj;split <;> omega
 have om:∀e,e<=m.Envelope.To.length+3->q2a ((l0 nm m sz mx K).take e) <+:d->AB n m e <+:u:=fun e he h1=>by
  have:=Wna o h1;rw[yCb h he,<-hud]at this;exact (AB_le n m (hj e he)).trans this
 have chain:∀e,e<=m.Envelope.To.length+3->q2a ((l0 nm m sz mx K).take e) <+:d:=by
  intro e;induction e with
  | zero=>intro _;exact List.nil_prefix
  | succ e ih=>
   intro he;have h1:=rm (om e (by omega) (ih (by omega)));rw[sv_take h hb e (by omega),<-l0_succ]at h1;exact h1
 have h3:=chain _ (jAn _);have hUu:U++ [c] <+:u:=by
  rw[<-hU];have ho:∀{x:List UInt8},x <+:d->zDa (zZa n m p) x=stF n m p K->AB n m (m.Envelope.To.length+3)++QUa m <+:u:=fun {x} hx1 hx2=>by
   have:=Wna o hx1;rw[hx2,<-hud]at this;exact this
  refine ho (x:=D1 nm m sz mx K) ?_ (c_D1 h);rw[jCm (by unfold l0;rw[jAr,YYa];omega)]at h3;rw[D1_l0];cases hr:rawP m.Message with
  | true=>rw[if_pos rfl,show q2a []=[] from rfl,jBj];exact h3
  | false=>
   have h4:=rm (om _ (jAn _) (chain _ (jAn _)));rw[sv_data h hb hr]at h4;have e3:=D1_l0 (nm:=nm) (m:=m) (sz:=sz) (mx:=mx) (K:=K);rw[hr]at e3;rw[<-e3];exact h4
 have h5:=rm hUu;rw[s3,wAa,y3a,<-jAx]at h5;have h6:D1 nm m sz mx K++repB (rId nm) <+:d:=h5;have hcd:zDa (zZa n m p) d=stE n m p K:=by
  obtain ⟨z,rfl⟩:=h6;exact K7a o (c_D2 h) rfl rfl z
 refine ⟨?_,by rw[hcd];rfl⟩;have r1:=(Vxa (nm:=nm) (sz:=sz) (mx:=mx) hUu).2;have r2:=(Vxa (nm:=nm) (sz:=sz) (mx:=mx) hu).2;rw[s3]at r1;rw[hmU]at r2;exact (qyb r1 r2).symm
end
end
def kRa(v7:(List Str) × zpa)(s9:Int × zma):Option (Step (Int × zma) zma):=
 (bif decide (s9.1 < (v7.1.length:Int)) then (idx v7.1 s9.1).bind fun v13=>(app 140737488355328 s9.2.down v13).bind fun v15=>(app 140737488355328 v15 (([(13:UInt8),(10:UInt8)]:List UInt8))).bind fun v17=>some (.cont ((w64 (s9.1+1)),(zma.mk s9.2.client s9.2.server v17 s9.2.up s9.2.mails))) else some (.out s9.2))
def qta(a1:List zra)(s1:Int × zma):Option (Step (Int × zma) zma):=
 (bif decide (s1.1 < (a1.length:Int)) then (idx a1 s1.1).bind fun v5=>(yDa v5).bind fun v7=>(iter (kRa v7) ((0,s1.2))).bind fun b10=>some (.cont ((w64 (s1.1+1)),b10)) else some (.out s1.2))
def qAa(a0:zma)(a1:List zra):Option zma:=
 (iter (qta a1) ((0,a0))).bind fun b2=>some b2
def vqa(a0:zma)(a1:Int):Option (Int × zma):=
 (bif decide (0 < (a0.down.length:Int)) then ((bif decide (0<=a1) then some ((min ((a0.down.length:Int)) a1)) else some ((a0.down.length:Int))):Option Int).bind fun (j2:Int)=>(cut a0.down 0 j2).bind fun v4=>(jHa a0.client v4).bind fun v6=>(cut a0.down j2 (a0.down.length:Int)).bind fun v8=>(app 140737488355328 a0.up v6.2.1).bind fun v10=>some ((j2,(zma.mk v6.1 a0.server v8 v10 a0.mails))) else ((bif decide (0<=a1) then some ((min ((a0.up.length:Int)) a1)) else some ((a0.up.length:Int))):Option Int).bind fun (j12:Int)=>(cut a0.up 0 j12).bind fun v14=>(jRa a0.server v14).bind fun v16=>(cut a0.up j12 (a0.up.length:Int)).bind fun v18=>(app 1353245080339 a0.mails v16.2.2.1).bind fun v20=>(qAa ((zma.mk a0.client v16.1 a0.down v18 v20)) v16.2.1).bind fun v22=>some ((j12,v22)))
def qSa(a5:List Int)(s15:Int):Option (Step Int (Unit ⊕ Int)):=
 (bif decide (s15 < (a5.length:Int)) then (idx a5 s15).bind fun v21=>((bif decide (v21 < 1) then some true else some (decide (40000 < v21))):Option Bool).bind fun (j23:Bool)=>(bif j23 then some (.out (.inr s15)) else some (.cont (w64 (s15+1)))) else some (.out (.inl (()))))
def kBa(a5:List Int)(s36:Int × Int × zma):Option (Step (Int × Int × zma) zma):=
 ((bif decide (0 < (w64 ((s36.2.2.down.length:Int)+(s36.2.2.up.length:Int)))) then some ((s36.2.1 !=0)) else some false):Option Bool).bind fun (j39:Bool)=>(bif j39 then (((bif decide (0 < (a5.length:Int)) then (nz ((a5.length:Int))).bind fun v45=>(idx a5 ((iRem s36.1 ((a5.length:Int))))).bind fun v47=>some v47 else some ((-1))):Option Int).bind fun (j43:Int)=>(((bif decide (0 < s36.2.1) then (bif decide (j43 < 0) then some true else some (decide (s36.2.1 < j43))) else some false):Option Bool).bind fun (j50:Bool)=>(bif j50 then some s36.2.1 else some j43):Option Int).bind fun (j49:Int)=>(vqa s36.2.2 j49).bind fun v54=>(bif decide (0 < s36.2.1) then some (((w64 (s36.2.1 - v54.1)),v54.2)) else some ((s36.2.1,v54.2))):Option (Int × zma)).bind fun (j42:Int × zma)=>some (.cont ((w64 (s36.1+1)),j42.1,j42.2)) else some (.out s36.2.2))
def kna(a0:zva)(a1:Str)(a2:Int)(a3:Int)(a4:Bool)(a5:List Int)(a6:Int):Option ((List zva) × (List Int) × zpa):=
 (yXa (([99,108,105,101,110,116]:Str)) a0 a4).bind fun v1=>(zEa v1.2).bind fun v3=>(bif v3 then some (([],[],v1.2)) else (ZSa a1 a2 a3).bind fun v6=>(zEa v6.2.2).bind fun v8=>(bif v8 then some (([],[],v6.2.2)) else (bif decide (300 < (a5.length:Int)) then (zka 2 ((-25))).bind fun v12=>some (([],[],v12)) else ((iter (qSa a5) 0).bind (Sum.elim (fun b16=>some ((-1))) (fun b17=>some b17)):Option Int).bind fun (j14:Int)=>(bif decide (0<=j14) then (zka 3 ((-25))).bind fun v27=>some (([],[],v27)) else ((bif decide (a6 < (-1)) then some true else some (decide (1000000 < a6))):Option Bool).bind fun (j29:Bool)=>(bif j29 then (zka 3 ((-26))).bind fun v32=>some (([],[],v32)) else (qAa ((zma.mk v1.1 v6.1 (([]:List UInt8)) (([]:List UInt8)) (([]:List zva)))) (([v6.2.1]:List zra))).bind fun v34=>(iter (kBa a5) ((0,a6,v34))).bind fun b37=>((bif (!b37.client.Done) then (yYa b37.client).bind fun v59=>some ((zma.mk v59.1 b37.server b37.down b37.up b37.mails)) else some b37):Option zma).bind fun (j57:zma)=>(zIa).bind fun v61=>some ((j57.mails,j57.client.Results,v61)))))))
def wXa:Option Bool:=
 (Kba (([([97,64,121]:Str)]:List Str))).bind fun v1=>(kna v1 (([109,120]:Str)) 1000 10 true ([]) ((-1))).bind fun v3=>(Kba (([([97,64,121]:Str)]:List Str))).bind fun v5=>(kna v5 (([109,120]:Str)) 1000 10 false (([1]:List Int)) 0).bind fun v7=>(Kba (([([97,64,121]:Str)]:List Str))).bind fun v9=>(kna v9 (([109,120]:Str)) 1000 10 false (([0]:List Int)) 0).bind fun v11=>((bif (v3.2.2.Code==0) then (bif (v7.2.2.Code==0) then (R_At 3 ((-25))).bind fun v16=>(bif (wra [(v11.2.2.Code==v16.Code),(v11.2.2.Index==v16.Index)]) then (bif ((v3.1.length:Int)==1) then (zKb v3.2.1 (([1]:List Int))).bind fun v20=>(bif v20 then (bif ((v7.1.length:Int)==0) then (zKb v7.2.1 (([2]:List Int))).bind fun v24=>some v24 else some false) else some false) else some false) else some false) else some false) else some false):Option Bool).bind fun (j13:Bool)=>some j13
def z7a(a0:zva)(v1:(List zva) × (List Int) × zpa)(s16:Int):Option (Step Int (Unit ⊕ Bool)):=
 (bif decide (s16 < (v1.2.1.length:Int)) then ((bif ((v1.1.length:Int)==1) then (idx v1.1 0).bind fun v24=>(idx a0.Envelope.To s16).bind fun v26=>(jBa v24.Envelope.To v26.Address).bind fun v28=>some (decide (0<=v28)) else some false):Option Bool).bind fun (j22:Bool)=>((idx v1.2.1 s16).bind fun v31=>(bif (v31==1) then (bif (!j22) then some true else (bif j22 then (idx v1.2.1 s16).bind fun v36=>(bif (v36 !=1) then (idx v1.2.1 s16).bind fun v39=>(bif (v39 !=4) then some true else (idx v1.2.1 s16).bind fun v42=>some ((v42==0))) else (idx v1.2.1 s16).bind fun v44=>some ((v44==0))) else (idx v1.2.1 s16).bind fun v46=>some ((v46==0)))) else (bif j22 then (idx v1.2.1 s16).bind fun v49=>(bif (v49 !=1) then (idx v1.2.1 s16).bind fun v52=>(bif (v52 !=4) then some true else (idx v1.2.1 s16).bind fun v55=>some ((v55==0))) else (idx v1.2.1 s16).bind fun v57=>some ((v57==0))) else (idx v1.2.1 s16).bind fun v59=>some ((v59==0)))):Option Bool).bind fun (j30:Bool)=>(bif j30 then some (.out (.inr false)) else some (.cont (w64 (s16+1)))) else some (.out (.inl (()))))
def z8a(a0:zva)(v1:(List zva) × (List Int) × zpa)(s63:Int):Option (Step Int (Unit ⊕ Bool)):=
 (idx v1.1 0).bind fun v68=>(bif decide (s63 < (v68.Envelope.To.length:Int)) then (idx v1.1 0).bind fun v71=>(idx v71.Envelope.To s63).bind fun v73=>(jBa a0.Envelope.To v73.Address).bind fun v75=>((bif decide (v75 < 0) then some true else (idx a0.Envelope.To v75).bind fun v79=>(idx v1.1 0).bind fun v81=>(idx v81.Envelope.To s63).bind fun v83=>some ((!(wra [(v79.Address==v83.Address),(v79.Notify==v83.Notify)])))):Option Bool).bind fun (j77:Bool)=>(bif j77 then some (.out (.inr false)) else some (.cont (w64 (s63+1)))) else some (.out (.inl (()))))
def qga(a0:zva)(a1:Int)(a2:Int)(a3:Bool)(a4:List Int)(a5:Int):Option Bool:=
 (kna a0 (([109,120]:Str)) a1 a2 a3 a4 a5).bind fun v1=>((wXa).bind fun v4=>(bif (!v4) then some true else some ((v1.2.2.Code !=0))):Option Bool).bind fun (j3:Bool)=>(bif j3 then ((wXa).bind fun v9=>(bif v9 then (bif ((v1.1.length:Int)==0) then some (((v1.2.1.length:Int)==0)) else some false) else some false):Option Bool).bind fun (j8:Bool)=>some j8 else ((bif decide (1 < (v1.1.length:Int)) then some true else some (((v1.2.1.length:Int) !=(a0.Envelope.To.length:Int)))):Option Bool).bind fun (j13:Bool)=>(bif j13 then some false else (iter (z7a a0 v1) 0).bind (Sum.elim (fun b17=>(bif ((v1.1.length:Int)==0) then some true else (iter (z8a a0 v1) 0).bind (Sum.elim (fun b64=>((idx v1.1 0).bind fun v87=>(bif (v87.Envelope.From==a0.Envelope.From) then (idx v1.1 0).bind fun v90=>(yaa v90.Message a0.Message).bind fun v92=>some v92 else some false):Option Bool).bind fun (j86:Bool)=>some j86) (fun b65=>some b65)))) (fun b18=>some b18))))
theorem aftS{γ:Type}{o:Option γ}{v:γ}(h:o=some v):(o.bind fun v=>some v)=some v:=by rw[h];rfl
theorem whb(x:Ses){n:Nat}(h:SI {x with Server:={x.Server with Phase:=0}} n)(hn:n<=1000000):kwa x=some (yna x):=by
 have hd:x.Server.Dots=0:=h.dots (by show (0:Int)≠1;decide);have hr:x.replies.length<=n:=h.reps;unfold kwa yna;cases x.Server.Ignore with
 | true=>exact aftS (wWa ⟨{x.Server with Phase:=0,Last:=false,Ignore:=false},x.replies,x.mails⟩ 503 [z6b] (by show x.replies.length<=_;omega))
 | false=>
  cases x.Server.Last with
  | true=>exact aftS (jxb ⟨{x.Server with Phase:=0,Last:=false,Ignore:=false},x.replies,x.mails⟩ (v2b (x:=⟨{x.Server with Phase:=0},x.replies,x.mails⟩) h hd) hn)
  | false=>exact aftS (wWa ⟨{x.Server with Phase:=0,Last:=false,Ignore:=false},x.replies,x.mails⟩ 250 [okW] (by show x.replies.length<=_;omega))
theorem JXa{c:Int}(h:0<=c/\c<=1000000):zOa c=some (Lib.decDigits c.toNat):=by
 obtain ⟨k,rfl⟩:∃k:Nat,c=(k:Int):=⟨c.toNat,by omega⟩;rw[jIa _ (by omega),jCw]
theorem execP_eq(x:Ses){n:Nat}(h:SI x n)(hn:n<=1000000)(hp:x.Server.Phase=0){c:zfa}(ok:wZa c):k5a x c=some (yta x c):=by
 have hr:=h.reps;have hv:=ok.verb;have hname:=h.name;have hd:x.Server.Dots=0:=h.dots (by rw[hp];decide);unfold k5a yta;by_cases h1:c.Verb=1
 .rw[if_pos h1,h1];simp only[show ((1:Int)==1)=true from rfl,cond_true,ab_eq,jAc];have l1:=QHa (n:=x.Server.Size.toNat) (by have:=h.size;omega);have l2:=QHa (n:=x.Server.Many.toNat) (by have:=h.many;omega);rw[show (abS x).Server.Size=x.Server.Size from rfl,show (abS x).Server.Many=x.Server.Many from rfl,JXa (c:=x.Server.Size) (by have:=h.size;omega),JXa (c:=x.Server.Many) (by have:=h.many;omega)];simp only[jAc];rw[via (show ([115,105,122,101,32]:Str).length+_<=_ by simp;omega),via (show ([114,101,99,105,112,105,101,110,116,115,32]:Str).length+_<=_ by simp;omega)];exact aftS (wWa ⟨{(abS x).Server with Greeted:=true},x.replies,x.mails⟩ 250 _ (by show x.replies.length<=_;omega))
 rw[if_neg h1,beq_eq_false_iff_ne.2 h1];simp only[cond_false];by_cases h2:c.Verb=2
 .rw[if_pos h2,h2];simp only[show ((2:Int)==2)=true from rfl,cond_true];have e:(bif (!x.Server.Greeted) then some true else some x.Server.Mailing)=some (!x.Server.Greeted || x.Server.Mailing):=by cases x.Server.Greeted <;> rfl
  rw[e];simp only[jAc];cases !x.Server.Greeted || x.Server.Mailing with
  | true=>exact aftS (wWa x 503 _ (by omega))
  | false=>
   simp only[cond_false];by_cases hs:x.Server.Size < c.Size
   .rw[if_pos hs,decide_eq_true hs];exact aftS (wWa x 552 _ (by omega))
   rw[if_neg hs,decide_eq_false hs];exact aftS (wWa ⟨{x.Server with Mailing:=true,From:=c.Address},x.replies,x.mails⟩ 250 _ (by show x.replies.length<=_;omega))
 rw[if_neg h2,beq_eq_false_iff_ne.2 h2];simp only[cond_false];by_cases h3:c.Verb=3
 .rw[if_pos h3,h3];exact aftS (rcpt_eq x h hn ok h3)
 rw[if_neg h3,beq_eq_false_iff_ne.2 h3];simp only[cond_false];by_cases h4:c.Verb=4
 .rw[if_pos h4,h4];simp only[show ((4:Int)==4)=true from rfl,cond_true];have e:(bif ((x.Server.To.length:Int)==0) then some true else some x.Server.Chunked)=some (x.Server.To.isEmpty || x.Server.Chunked):=by rw[Wla];cases x.Server.To.isEmpty <;> rfl
  rw[e];simp only[jAc];cases x.Server.To.isEmpty || x.Server.Chunked with
  | true=>exact aftS (wWa x 503 _ (by omega))
  | false=>exact aftS (wWa ⟨{x.Server with Phase:=1},x.replies,x.mails⟩ 354 _ (by show x.replies.length<=_;omega))
 rw[if_neg h4,beq_eq_false_iff_ne.2 h4];simp only[cond_false];by_cases h5:c.Verb=5
 .rw[if_pos h5,h5];simp only[show ((5:Int)==5)=true from rfl,cond_true];rw[Wla];by_cases hz:c.Size=0
  .rw[if_pos hz,hz];simp only[show ((0:Int)==0)=true from rfl,cond_true];have e1:=whb ⟨{x.Server with Phase:=2,Left:=c.Size,Last:=c.Last,Ignore:=x.Server.To.isEmpty,Chunked:= !x.Server.To.isEmpty},x.replies,x.mails⟩ (v4b h hd c) hn;rw[hz]at e1;exact aftS e1
  rw[if_neg hz,beq_eq_false_iff_ne.2 hz];rfl
 rw[if_neg h5,beq_eq_false_iff_ne.2 h5];simp only[cond_false];by_cases h6:c.Verb=6
 .rw[if_pos h6,h6];simp only[show ((6:Int)==6)=true from rfl,cond_true,ab_eq,jAc];exact aftS (wWa (abS x) 250 _ (by show x.replies.length<=_;omega))
 rw[if_neg h6,beq_eq_false_iff_ne.2 h6];simp only[cond_false];by_cases h8:c.Verb=8
 .rw[if_pos h8,h8];simp only[show ((8:Int)==7)=false from rfl,show ((8:Int)==8)=true from rfl,cond_true,cond_false];rw[wWa x 221 _ (by omega)];rfl
 rw[if_neg h8,beq_eq_false_iff_ne.2 h8];have h7:c.Verb=7:=by omega
 rw[h7];exact aftS (wWa x 250 _ (by omega))
theorem lineP_eq(x:Ses){n:Nat}(h:SI x n)(hn:n<=1000000)(hp:x.Server.Phase=0)(c:UInt8):qIa x c=some (JLa x c):=by
 have hr:=h.reps;have hb:=h.buf;have h0:=ytb h (b:=[]) (by simp);have hlen:(x.Server.Buffer++ [c]).length=x.Server.Buffer.length+1:=by simp
 unfold qIa JLa;rw[kUa (show x.Server.Buffer.length+ [c].length<=140737488355328 by simp;omega)];simp only[jAc];unfold vma;rw[Zda _ _ (by omega)];simp only[jAc];cases hs: [13,10].isSuffixOf (x.Server.Buffer++ [c]) with
 | true=>
  have hl2:=(jBk.1 hs).length_le;simp only[jAr,jBp]at hl2;have ecut:w64 (((x.Server.Buffer++ [c]).length:Int) - (([13,10]:List UInt8).length:Int))=(((x.Server.Buffer++ [c]).length - 2:Nat):Int):=by
   rw[show (((x.Server.Buffer++ [c]).length:Int) - (([13,10]:List UInt8).length:Int))=(((x.Server.Buffer++ [c]).length - 2:Nat):Int) by simp only[jAr,jBp];omega,w3b _ (by omega)]
  simp only[jBf,cond_false,if_true];rw[ecut,KSa (by omega)];simp only[jAc,jBf,cond_false];rw[Yxa _ (by simp;omega)];simp only[jAc];generalize hR:ZUa ((x.Server.Buffer++ [c]).take ((x.Server.Buffer++ [c]).length - 2))=r;by_cases h18:r.2.Code=18
  .rw[if_pos h18,h18];exact aftS (wWa (bufS x []) 500 _ (by show x.replies.length<=_;omega))
  rw[if_neg h18];by_cases hz:r.2.Code=0
  .have ok:wZa r.1:=by rw[<-hR]at hz ⊢;exact JOa hz
   rw[if_pos hz,hz];exact aftS (execP_eq (bufS x []) h0 hn hp ok)
  rw[if_neg hz,beq_eq_false_iff_ne.2 hz,beq_eq_false_iff_ne.2 h18];exact aftS (wWa (bufS x []) 501 _ (by show x.replies.length<=_;omega))
 | false=>
  simp only[jDn,cond_true,cond_false,jAs,if_false,jAc];by_cases h4:(x.Server.Buffer++ [c]).length=4002
  .rw[if_pos h4,h4];simp only[show (((4002:Nat):Int)==4002)=true from rfl,cond_true];exact (congrArg (fun o=>(o.bind fun (v8:zda)=>(qsa v8).bind fun v10=>some v10).bind fun j=>some j) (wWa (bufS x (x.Server.Buffer++ [c])) 500 [qjb] (by show x.replies.length<=_;omega))).trans rfl
  rw[if_neg h4,beq_eq_false_iff_ne.2 (show ((x.Server.Buffer++ [c]).length:Int)≠4002 by omega)];rfl
theorem dataP_eq(x:Ses){n:Nat}(h:SI x n)(hn:n<=1000000)(c:UInt8):qJa x c=some (Wka x c):=by
 unfold qJa Wka;rw[ZKa c 46 (by decide),ZKa c 13 (by decide),ZKa c 10 (by decide),K8a,K8a,K8a,deq,deq,deq,qmb,qmb,qmb];simp only[jAc];by_cases h0:x.Server.Dots=0/\c=46
 .rw[if_pos h0,decide_eq_true h0];rfl
 rw[if_neg h0,decide_eq_false h0];simp only[cond_false];by_cases h1:x.Server.Dots=1/\c=13
 .rw[if_pos h1,decide_eq_true h1];rfl
 rw[if_neg h1,decide_eq_false h1];simp only[cond_false];by_cases h2:x.Server.Dots=2/\c=10
 .rw[if_pos h2,decide_eq_true h2];exact aftS (jxb _ (jAb h) hn)
 rw[if_neg h2,decide_eq_false h2];simp only[cond_false];by_cases hd2:x.Server.Dots=2
 .rw[if_pos hd2,decide_eq_true hd2];simp only[cond_true];rw[Vjb x 13 h];simp only[jAc];rw[Vmb _ (Kga h 13) c,(voa x 13).1]
 rw[if_neg hd2,decide_eq_false hd2];simp only[cond_false,jAc];rw[Vmb x h c]
theorem stepP_eq(a1:List UInt8)(ha:a1.length<=1000000)(i:Nat)(c:UInt8)(x:Ses)(hc:a1[i]? =some c)(h:SI x i):q3a a1 ((i:Int),x)=some (.cont (((i+1:Nat):Int),v5a x c)):=by
 have hi:=kja hc;unfold q3a v5a;dsimp only;rw[qOa hc,kaa hc];simp only[cond_true,jAc];rw[sc i (by omega)];by_cases h0:x.Server.Phase=0
 .rw[if_pos h0,h0,lineP_eq x h (by omega) h0 c];rfl
 rw[if_neg h0,beq_eq_false_iff_ne.2 h0];simp only[cond_false];by_cases h1:x.Server.Phase=1
 .rw[if_pos h1,h1,dataP_eq x h (by omega) c];rfl
 rw[if_neg h1,beq_eq_false_iff_ne.2 h1];simp only[cond_false];by_cases h2:x.Server.Phase=2
 .rw[if_pos h2,h2];simp only[show ((2:Int)==2)=true from rfl,cond_true];have e1:(bif !x.Server.Ignore then (kua x c).bind fun v36=>some v36 else some x)=some (bif x.Server.Ignore then x else z4a x c):=by
   rw[Vjb x c h];cases x.Server.Ignore <;> rfl
  rw[e1];simp only[jAc];have hy:SI (bif x.Server.Ignore then x else z4a x c) i/\(bif x.Server.Ignore then x else z4a x c).Server.Phase=2:=by
   cases x.Server.Ignore with
   | true=>exact ⟨h,h2⟩
   | false=>exact ⟨Kga h c,by rw[show (bif false then x else z4a x c)=z4a x c from rfl,(voa x c).2];exact h2⟩
  generalize (bif x.Server.Ignore then x else z4a x c)=y at hy;obtain ⟨hy,hyp⟩:=hy;obtain ⟨q1,q2⟩:=jBb hy hyp;have hl:=hy.left hyp;rw[qBa (n:=y.Server.Left - 1) (by omega) (by omega)];by_cases hz:y.Server.Left - 1=0
  .rw[if_pos hz,show (y.Server.Left - 1==0)=true by rw[hz];rfl];exact (congrArg (fun (o:Option zda)=>(o.bind fun v39=>some v39).bind fun (j24:zda)=>(some (Step.cont (((i+1:Nat):Int),j24)):Option (Step (Int × zda) zda))) (whb (yub y) q1 (by omega))).trans rfl
  rw[if_neg hz,beq_eq_false_iff_ne.2 hz];rfl
 rw[if_neg h2,beq_eq_false_iff_ne.2 h2];rfl
theorem W0a(a1:List UInt8)(ha:a1.length<=1000000)(x:Ses)(h:SI x 0):iter (q3a a1) ((0,x))=some (zTa x a1)/\SI (zTa x a1) a1.length:=
 KTa a1 (fun i (s:Ses)=>(i,s)) v5a id (fun i s=>SI s i) (body:=q3a a1) (fun s _=>by unfold q3a;rw[kLa];rfl) (fun i c s hc hs=>⟨stepP_eq a1 ha i c s hc hs,jCb hs c⟩) x h
theorem FeedP_eq(s:zsa)(b:List UInt8)(h:jEb s)(hc:srvF s=⟨0,0⟩)(hb:b.length<=40000):jRa s b=some ((zTa ⟨s,[],[]⟩ b).Server,(zTa ⟨s,[],[]⟩ b).replies,(zTa ⟨s,[],[]⟩ b).mails,⟨0,0⟩):=by
 obtain ⟨h1,h2,_⟩:=qnb (s:=s) (by rw[hc]);unfold jRa;rw[Vob _ _ _ h.name];simp only[jAc,zBa];rw[h1,Vsb s h,h2];simp only[show ((0:Int) !=0)=false from rfl,cond_false,jAc,jBf];rw[decide_eq_false (by omega)];simp only[cond_false];rw[JMa _ h.tos.1,JNa _ h.buf,JNa _ h.data];simp only[jAc];rw[show (⟨⟨s.Name,s.Size,s.Many,s.Phase,s.Greeted,s.Mailing,s.From,s.To,s.Buffer,s.Data,s.Lost,s.Dots,s.Chunked,s.Left,s.Last,s.Ignore,s.Count⟩,([]:List zra),([]:List zva)⟩:Ses)=⟨s,[],[]⟩ from rfl,(W0a b (by omega) _ (jGb (s:=s) (by rw[hc]))).1];rfl
theorem VXb(n:Str)(a b:Int)(h:n.length<=1048576):ZSa n a b=some (newF n a b):=by
 unfold ZSa newF;rw[Vob _ _ _ h];simp only[jAc,zBa];by_cases hc:(jTa n a b).Code=0
 .rw[if_neg (by simp[hc]),hc,(JPa hc).1];rfl
 rw[if_pos hc,bne_iff_ne.2 hc];rfl
section
theorem print_ok{r:zra}(h:okR r=true):yDa r=some (prn (dig3 r.Code.toNat) r.Lines,⟨0,0⟩):=by
 have ok:=(Wma h).1;rw[zkb r (rOk_sm ok),vvb ok,if_neg (by decide)]
def dwn(x:zma)(b:List UInt8):zma:=⟨x.client,x.server,b,x.up,x.mails⟩
theorem VYb(v:List Str × zpa)(x:zma)(hn:v.1.length<=1000)(hl:∀s∈v.1,s.length<=1000)(hd:x.down.length<=1000000000):iter (kRa v) (0,x)=some (dwn x (x.down++zJa v.1)):=by
 obtain ⟨h1,_⟩:=KTa v.1 (fun j (s:zma)=>(j,s)) (fun s r=>dwn s (s.down++r++ [13,10])) id (fun j s=>s.down.length<=1000000000+1002 * j) (body:=kRa v) (fun s _=>by unfold kRa;rw[kLa];rfl) (fun j r s hr hs=>by
  have hj:=kja hr;have hm:=hl r (jAj hr);refine ⟨?_,by simp only[dwn,jAl,jAr,jBp];omega⟩;unfold kRa;dsimp only;rw[qOa hr,kaa hr];simp only[cond_true,jAc];rw[kUa (by omega)];simp only[jAc];rw[kUa (by simp;omega)];simp only[jAc];rw[sc j (by omega)];rfl) x (by omega)
 have key:∀(l:List Str) (s:zma),l.foldl (fun s r=>dwn s (s.down++r++ [13,10])) s=dwn s (s.down++zJa l):=by
  intro l;induction l with
  | nil=>intro s;rw[vwb,jBj];rfl
  | cons r l ih=>intro s;rw[jDw,ih,ZOa];simp[dwn]
 rw[key]at h1;exact h1
theorem kfb(x:zma)(l:List zra)(ho:∀r∈l,okR r=true)(hn:l.length<=100000)(hd:x.down.length<=100000):qAa x l=some (dwn x (x.down++q2a l)):=by
 obtain ⟨h1,_⟩:=KTa l (fun j (s:zma)=>(j,s)) (fun s r=>dwn s (s.down++repB r)) id (fun j s=>s.down.length<=100000+200 * j) (body:=qta l) (fun s _=>by unfold qta;rw[kLa];rfl) (fun j r s hr hs=>by
  have hj:=kja hr;have hm:=ho r (jAj hr);obtain ⟨ok,hb⟩:=Wma hm;refine ⟨?_,by simp only[dwn,jAl];omega⟩;have h4:∀s∈prn (dig3 r.Code.toNat) r.Lines,s.length<=504:=by
   obtain ⟨⟨u,hu,h1,h2⟩,_,hx⟩:=ok;exact Q4b (u:=r.Code.toNat) r.Lines fun s hs=>(hx s hs).1
  unfold qta;dsimp only;rw[qOa hr,kaa hr];simp only[cond_true,jAc];rw[print_ok hm];simp only[jAc];rw[VYb _ s (by rw[ygb];have:=ok.len;omega) (fun s hs=>by have:=h4 s hs;omega) (by omega)];simp only[jAc];rw[sc j (by omega)];rfl) x (by omega)
 have key:∀(l:List zra) (s:zma),l.foldl (fun s r=>dwn s (s.down++repB r)) s=dwn s (s.down++q2a l):=by
  intro l;induction l with
  | nil=>intro s;rw[show q2a []=[] from rfl,jBj];rfl
  | cons r l ih=>intro s;rw[jDw,ih];simp[dwn,q2a]
 rw[key]at h1;unfold qAa;rw[h1];rfl
structure Hist (c0:zna) (s0:zsa) (g:List UInt8) (x:zma) (d u:List UInt8):Prop where
 cl:x.client=(zDa c0 d).C
 sv:x.server=(zTa ⟨s0,[],[]⟩ u).Server
 dn:d++x.down=g++q2a (zTa ⟨s0,[],[]⟩ u).replies
 up:u++x.up=(zDa c0 d).Out
 ml:x.mails=(zTa ⟨s0,[],[]⟩ u).mails
 le:∀D U,Fx c0 s0 g D U->d <+:D/\u <+:U
section
variable {c0:zna} {s0:zsa} {g:List UInt8} {x:zma} {d u D U:List UInt8}
theorem Hist.all(o:K4a c0)(h:Hist c0 s0 g x d u)(fx:Fx c0 s0 g D U):d++x.down <+:D/\u++x.up <+:U:=by
 obtain ⟨h1,h2⟩:=h.le D U fx;constructor
 .rw[h.dn,<-fx.rep];exact jDt _ |>.2 (WZa (qzb h2).1)
 rw[h.up,<-fx.out];exact Wna o h1
def wib(k:Int)(n:Nat):Nat:=if k < 0 then n else min n k.toNat
theorem jTb(k:Int)(n:Nat):((bif decide (0<=k) then some (min (n:Int) k) else some (n:Int)):Option Int)=some ((wib k n:Nat):Int):=by
 unfold wib;by_cases h:k < 0
 .rw[if_pos h,decide_eq_false (by omega)];rfl
 rw[if_neg h,decide_eq_true (by omega)];simp only[cond_true,Option.some.injEq];omega
theorem Z9b(o:K4a c0)(hb:c0.Buffer=[])(hs:srvF s0=⟨0,0⟩)(fx:Fx c0 s0 g D U)(h:Hist c0 s0 g x d u)(hne:¬(x.down=[]/\x.up=[]))(k:Int)(hk:k < 0∨1<=k):
 ∃(n:Nat) (y:zma) (d' u' :List UInt8),vqa x k=some ((n:Int),y)/\Hist c0 s0 g y d' u' /\1<=n/\d'.length+u'.length=d.length+u.length+n/\(1<=k->(n:Int)<=k):=by
 obtain ⟨a1,a2⟩:=h.all o fx;have al1:=a1.length_le;have al2:=a2.length_le;have hdl:=fx.dl;have hul:=fx.ul;simp only[jAl]at al1 al2;have pc:∀n,1<=n->1<=wib k n/\wib k n<=n/\(1<=k->(wib k n:Int)<=k):=fun n hn=>by
  unfold wib;split
  .exact ⟨hn,jAn _,fun _=>by omega⟩
  exact ⟨by omega,by omega,fun _=>by omega⟩
 unfold vqa;by_cases hd:x.down=[]
 .have hu:x.up≠ []:=fun e=>hne ⟨hd,e⟩
  have hpos:1<=x.up.length:=jCv.2 hu;obtain ⟨p1,p2,p3⟩:=pc _ hpos;rw[show decide (0 < (x.down.length:Int))=false by rw[hd];rfl];simp only[cond_false];rw[jTb k x.up.length];simp only[jAc];rw[KSa p2,jja p2];simp only[jAc];generalize hq:wib k x.up.length=q at p1 p2 p3;have hut:u++x.up.take q <+:u++x.up:=jDt _ |>.2 (List.take_prefix _ _)
  have hle:∀D U,Fx c0 s0 g D U->d <+:D/\u++x.up.take q <+:U:=fun D U fx=>⟨(h.le D U fx).1,hut.trans (h.all o fx).2⟩
  have hc:=qnb (s:=s0) (by rw[hs]);have si0:=jGb (s:=s0) (by rw[hs]);have v1:=Vxb u _ 0 si0 (vs_of_ok hc.2.1);have si1:=(W0a u (by omega) _ si0).2;have si2:=(W0a (u++x.up.take q) (by rw[jAl,jBq];omega) _ si0).2;have cfe:=Vzb u ⟨s0,[],[]⟩;have sm:=ywb si1 v1;have hsrv:srvF (zTa ⟨s0,[],[]⟩ u).Server=⟨0,0⟩:=by
   unfold cf at cfe;simp only[Prod.mk.injEq]at cfe;obtain ⟨c1,c2,c3⟩:=cfe;unfold srvF;rw[c1,c2,c3,if_neg (by simp[hc.1]),jHb v1,if_neg (by simp)]
  have app:=JSa u (x.up.take q) s0;have hlt:(x.up.take q).length=q:=by rw[jBq];omega
  rw[h.sv,FeedP_eq _ _ sm hsrv (by omega)];simp only[jAc];have m1:=si2.mails;have r1:=si2.reps;rw[app]at m1 r1;simp only[spre,jAl]at m1 r1;rw[h.ml,kUa (by omega)];simp only[jAc];have hok:∀r∈(zTa ⟨(zTa ⟨s0,[],[]⟩ u).Server,[],[]⟩ (x.up.take q)).replies,okR r=true:=fun r hr=>by
   refine fx.ok r ?_;have:=(qzb (s0:=s0) (hle D U fx).2).1;rw[app]at this;exact this.subset (List.mem_append_right _ hr)
  rw[kfb _ _ hok (by omega) (by rw[hd];simp)];simp only[jAc];refine ⟨q,_,d,u++x.up.take q,rfl,⟨h.cl,?_,?_,?_,?_,hle⟩,p1,by rw[jAl,hlt];omega,p3⟩
  .rw[app];rfl
  .have:=h.dn;rw[hd,jBj]at this;show d++(x.down++q2a _)=_;rw[app,hd,jBm];show _=g++q2a (_++_);rw[wAa,<-jAx,<-this]
  .show u++x.up.take q++x.up.drop q=_;rw[jAx,jEl,h.up]
  rw[app];rfl
 have hpos:1<=x.down.length:=jCv.2 hd;obtain ⟨p1,p2,p3⟩:=pc _ hpos;rw[decide_eq_true (show 0 < (x.down.length:Int) by omega)];simp only[cond_true];rw[jTb k x.down.length];simp only[jAc];rw[KSa p2,jja p2];simp only[jAc];generalize hq:wib k x.down.length=q at p1 p2 p3;have hdt:d++x.down.take q <+:d++x.down:=jDt _ |>.2 (List.take_prefix _ _)
 have hle:∀D U,Fx c0 s0 g D U->d++x.down.take q <+:D/\u <+:U:=fun D U fx=>⟨hdt.trans (h.all o fx).1,(h.le D U fx).2⟩
 obtain ⟨ok,_,hbl,_⟩:=K5a o (d:=d) (by rw[hb];simp;omega);rw[hb]at hbl;simp only[jBp]at hbl;have hlt:(x.down.take q).length=q:=by rw[jBq];omega
 have hout:=Wna o (hle D U fx).1;rw[fx.out]at hout;have hol:=hout.length_le;rw[wia o]at hol;simp only[pre,jAl]at hol;have hup:=congrArg List.length h.up;rw[jAl]at hup;rw[h.cl,feed_eq _ _ ok.small (by omega),feedP_ok ok (by omega)];simp only[jAc];rw[kUa (by omega)];simp only[jAc];refine ⟨q,_,d++x.down.take q,u,rfl,⟨?_,h.sv,?_,?_,h.ml,hle⟩,p1,by rw[jAl,hlt];omega,p3⟩
 .rw[wia o];rfl
 .show d++x.down.take q++x.down.drop q=_;rw[jAx,jEl,h.dn]
 show u++(x.up++_)=_;rw[wia o,<-jAx,h.up];rfl
theorem steps_eq(o:K4a c0)(hb:c0.Buffer=[])(hs:srvF s0=⟨0,0⟩)(fx:Fx c0 s0 g D U)(cuts:List Int)(hc:∀c∈cuts,1<=c/\c<=40000)(ha:cuts.length<=300):
 ∀(w:Nat) (x:zma) (d u:List UInt8) (k:Nat) (left:Int),D.length+U.length - (d.length+u.length)<=w->Hist c0 s0 g x d u-> -1<=left->left<=1000000->k<=d.length+u.length->
 ∃(y:zma) (d' u' :List UInt8),iter (kBa cuts) ((k:Int),left,x)=some y/\Hist c0 s0 g y d' u' /\(left= -1->y.down=[]/\y.up=[])/\(left=0->d' =d/\u' =u):=by
 intro w;induction w with
 | zero=>
  intro x d u k left hw h h1 h2 hk;obtain ⟨a1,a2⟩:=h.all o fx;have al1:=a1.length_le;have al2:=a2.length_le;simp only[jAl]at al1 al2;have e1:x.down=[]:=jDc.1 (by omega);have e2:x.up=[]:=jDc.1 (by omega);refine ⟨x,d,u,zRa ?_,h,fun _=>⟨e1,e2⟩,fun _=>⟨rfl,rfl⟩⟩;unfold kBa;dsimp only;rw[e1,e2];rfl
 | succ w ih=>
  intro x d u k left hw h h1 h2 hk;obtain ⟨a1,a2⟩:=h.all o fx;have al1:=a1.length_le;have al2:=a2.length_le;have hdl:=fx.dl;have hul:=fx.ul;simp only[jAl]at al1 al2;by_cases hz:left=0
  .subst hz;refine ⟨x,d,u,zRa ?_,h,fun e=>by omega,fun _=>⟨rfl,rfl⟩⟩;unfold kBa;dsimp only;rw[show ((0:Int) !=0)=false from rfl];cases decide (0 < w64 ((x.down.length:Int)+(x.up.length:Int))) <;> rfl
  by_cases hne:x.down=[]/\x.up=[]
  .refine ⟨x,d,u,zRa ?_,h,fun _=>hne,fun e=>absurd e hz⟩;unfold kBa;dsimp only;rw[hne.1,hne.2];rfl
  have hlen:0 < x.down.length+x.up.length:=by
   rcases jEg x.down.length with e | e
   .rcases jEg x.up.length with e2 | e2
    .exact absurd ⟨jDc.1 e,jDc.1 e2⟩ hne
    omega
   omega
  obtain ⟨j,hj,hj1⟩:∃j:Int,(((bif decide (0 < (cuts.length:Int)) then (nz ((cuts.length:Int))).bind fun v45=>(idx cuts ((iRem (k:Int) ((cuts.length:Int))))).bind fun v47=>some v47 else some ((-1))):Option Int))=some j/\(j= -1∨1<=j):=by
   by_cases h0:0 < cuts.length
   .rw[decide_eq_true (by omega)];have hm:iRem (k:Int) (cuts.length:Int)=((k % cuts.length:Nat):Int):=by unfold iRem;rfl
    have hlt:=Nat.mod_lt k h0;have hnz:nz (cuts.length:Int)=some true:=by
     unfold nz;rw[show ((cuts.length:Int)==0)=false by rw[beq_eq_false_iff_ne];omega];rfl
    rw[hnz,hm,y5b hlt];exact ⟨_,rfl,.inr (hc _ (jDj hlt)).1⟩
   rw[decide_eq_false (by omega)];exact ⟨-1,rfl,.inl rfl⟩
  obtain ⟨q,hq,hq1,hq2⟩:∃q:Int,((((bif decide (0 < left) then (bif decide (j < 0) then some true else some (decide (left < j))) else some false):Option Bool).bind fun (j50:Bool)=>(bif j50 then some left else some j)):Option Int)=some q/\(q < 0∨1<=q)/\(0 < left->1<=q/\q<=left):=by
   by_cases hl:0 < left
   .rw[decide_eq_true hl];by_cases hj0:j < 0
    .rw[decide_eq_true hj0];exact ⟨left,rfl,by omega,fun _=>by omega⟩
    rw[decide_eq_false hj0];by_cases hj3:left < j
    .rw[decide_eq_true hj3];exact ⟨left,rfl,by omega,fun _=>by omega⟩
    rw[decide_eq_false hj3];exact ⟨j,rfl,by omega,fun _=>by omega⟩
   rw[decide_eq_false hl];exact ⟨j,rfl,by omega,fun h=>absurd h hl⟩
  obtain ⟨n,y,d',u',e1,h',n1,n2,n3⟩:=Z9b o hb hs fx h hne q hq1;obtain ⟨b1,b2⟩:=h'.all o fx;have bl1:=b1.length_le;have bl2:=b2.length_le;simp only[jAl]at bl1 bl2;have vna:∃left' :Int,kBa cuts ((k:Int),left,x)=some (.cont (((k+1:Nat):Int),left',y))/\ -1<=left' /\left' <=1000000/\(left= -1->left' = -1):=by
   unfold kBa;dsimp only;rw[Yfa _ _ (by omega),decide_eq_true (show (0:Int) < ((x.down.length+x.up.length:Nat):Int) by omega),show (left !=0)=true by simpa using hz];simp only[cond_true,jAc];rw[hj];simp only[jAc];rw[hq];simp only[jAc];rw[e1];simp only[jAc];rw[sc k (by omega)];by_cases hl:0 < left
   .rw[decide_eq_true hl];obtain ⟨q1,q2⟩:=hq2 hl;have:=n3 q1;refine ⟨left - n,?_,by omega,by omega,fun e=>by omega⟩;simp only[cond_true,jAc];rw[qBa (by omega) (by omega)]
   rw[decide_eq_false hl];exact ⟨left,rfl,h1,h2,id⟩
  obtain ⟨left',e2,l1,l2,l3⟩:=vna;obtain ⟨z,d2,u2,f1,f2,f3,f4⟩:=ih y d' u' (k+1) left' (by omega) h' l1 l2 (by omega);exact ⟨z,d2,u2,(z0a e2).trans f1,f2,fun e=>f3 (l3 e),fun e=>absurd e hz⟩
end
def cutB(c:Int):Bool:=decide (c < 1) || decide (40000 < c)
def qia:Str:=[99,108,105,101,110,116]
def ZXa(m:zva)(nm:Str)(sz mx:Int)(cuts:List Int)(loss:Int):zpa:=
 if (qUa qia m).Code≠0 then qUa qia m else if (jTa nm sz mx).Code≠0 then jTa nm sz mx else if 300 < cuts.length then ⟨2, -25⟩ else if cuts.any cutB then ⟨3, -25⟩ else if loss < -1∨1000000 < loss then ⟨3, -26⟩ else ⟨0,0⟩
theorem wjb(l:List Int)(hl:l.length<=1048576):∃j:Int,((iter (qSa l) 0).bind (Sum.elim (fun b16=>some ((-1))) (fun b17=>some b17)):Option Int)=some j/\decide (0<=j)=l.any cutB:=by
 have h1:=kba l (fun i c=>if cutB c then some ((i:Nat):Int) else none) (.inl ()) .inr (body:=qSa l) (by unfold qSa;rw[kLa];rfl) (fun i c hc=>by
  have hi:=kja hc;have e:((bif decide (c < 1) then some true else some (decide (40000 < c))):Option Bool)=some (cutB c):=by unfold cutB;cases decide (c < 1) <;> rfl
  unfold qSa;rw[qOa hc,kaa hc];simp only[cond_true,jAc];rw[e];simp only[jAc];cases cutB c with
  | true=>rfl
  | false=>rw[sc i (by omega)];rfl)
 rw[h1];cases hf:zPa (fun i c=>if cutB c then some ((i:Nat):Int) else none) 0 l with
 | none=>
  refine ⟨-1,rfl,?_⟩;have:l.any cutB=false:=by
   rw[jCj];intro c hc hcb;obtain ⟨i,hi⟩:=List.mem_iff_getElem?.1 hc;have:=qca.1 hf i c hi;rw[if_pos hcb]at this;cases this
  rw[this];rfl
 | some r=>
  obtain ⟨i,c,hi,hq⟩:=wNa hf;have hcb:cutB c=true:=by
   cases h:cutB c with
   | true=>rfl
   | false=>rw[h,if_neg (by decide)]at hq;cases hq
  rw[hcb,if_pos rfl]at hq;cases hq;refine ⟨_,rfl,?_⟩;rw[List.any_eq_true.2 ⟨c,jAj hi,hcb⟩];exact decide_eq_true (by omega)
theorem wkb{n:Str}{m:zva}{p:Bool}(h:(qUa n m).Code=0):zZb n m p=(zZa n m p,⟨0,0⟩):=by
 unfold zZb;rw[if_neg (by simp[h])]
theorem Kab{n:Str}{m:zva}{p:Bool}(h:¬(qUa n m).Code=0):zZb n m p=(QVb,qUa n m):=by
 unfold zZb;rw[if_pos h]
theorem VZb{n:Str}{a b:Int}(h:(jTa n a b).Code=0):newF n a b=(sv n a b false false [] [],rG n,⟨0,0⟩):=by
 unfold newF;rw[if_neg (by simp[h])];rfl
theorem newF_bad{n:Str}{a b:Int}(h:¬(jTa n a b).Code=0):newF n a b=(zeroS,⟨0,[]⟩,jTa n a b):=by
 unfold newF;rw[if_pos h]
section
variable {m:zva} {nm:Str} {sz mx:Int} {p:Bool} {cuts:List Int} {loss:Int}
theorem Yoa(h1:jka m.Envelope)(h2:yha m.Message)(hn:nm.length<=1048576)(hcl:cuts.length<=1048576)(h:(ZXa m nm sz mx cuts loss).Code≠0):kna m nm sz mx p cuts loss=some ([],[],ZXa m nm sz mx cuts loss):=by
 unfold kna;rw[show (([99,108,105,101,110,116]:Str))=qia from rfl,jpb qia m p (by decide) h1 h2,VXb nm sz mx hn];simp only[jAc,zBa,zAa];by_cases c1:(qUa qia m).Code=0
 .rw[wkb c1];simp only[show ((0:Int) !=0)=false from rfl,cond_false];by_cases c2:(jTa nm sz mx).Code=0
  .rw[VZb c2];have hT:ZXa m nm sz mx cuts loss=if 300 < cuts.length then ⟨2, -25⟩ else if cuts.any cutB then ⟨3, -25⟩ else if loss < -1∨1000000 < loss then ⟨3, -26⟩ else ⟨0,0⟩:=by
    unfold ZXa;rw[if_neg (by simp[c1]),if_neg (by simp[c2])]
   rw[hT]at h ⊢;simp only[show ((0:Int) !=0)=false from rfl,cond_false];by_cases c3:300 < cuts.length
   .rw[if_pos c3,decide_eq_true (by omega)];rfl
   rw[if_neg c3]at h ⊢;rw[decide_eq_false (by omega)];obtain ⟨j,hj,hj2⟩:=wjb cuts hcl;simp only[cond_false];rw[hj];simp only[jAc];rw[hj2];cases c4:cuts.any cutB with
   | true=>rw[if_pos rfl];rfl
   | false=>
    rw[c4,if_neg (by decide)]at h;rw[if_neg (by decide)];by_cases c5:loss < -1∨1000000 < loss
    .rw[if_pos c5];have e:((bif decide (loss < (-1)) then some true else some (decide (1000000 < loss))):Option Bool)=some true:=by
      by_cases c6:loss < -1
      .rw[decide_eq_true c6];rfl
      rw[decide_eq_false c6,decide_eq_true (by omega)];rfl
     simp only[cond_false];rw[e];rfl
    rw[if_neg c5]at h;exact absurd rfl h
  have hT:ZXa m nm sz mx cuts loss=jTa nm sz mx:=by
   unfold ZXa;rw[if_neg (by simp[c1]),if_pos c2]
  rw[newF_bad c2,hT];rw[show ((jTa nm sz mx).Code !=0)=true by simpa using c2];rfl
 have hT:ZXa m nm sz mx cuts loss=qUa qia m:=by
  unfold ZXa;rw[if_pos c1]
 rw[Kab c1,hT];rw[show ((qUa qia m).Code !=0)=true by simpa using c1];rfl
theorem Vya(h1:jka m.Envelope)(h2:yha m.Message)(h:(ZXa m nm sz mx cuts loss).Code=0):
 ∃K,Ctx qia nm m sz mx K/\∃d u,kna m nm sz mx p cuts loss=some ((zTa (s00 nm sz mx) u).mails,finR (zDa (zZa qia m p) d).C,⟨0,0⟩)/\
  d <+:repB (rG nm)++q2a (zTa (s00 nm sz mx) u).replies/\u <+:(zDa (zZa qia m p) d).Out/\
  (∀D U,Fx (zZa qia m p) (sv nm sz mx false false [] []) (repB (rG nm)) D U->d <+:D/\u <+:U)/\
  (loss= -1->d=repB (rG nm)++q2a (zTa (s00 nm sz mx) u).replies/\u=(zDa (zZa qia m p) d).Out)/\(loss=0->d=[]/\u=[]):=by
 unfold ZXa at h;split at h
 .rename_i c1;exact absurd h c1
 rename_i c1;split at h
 .rename_i c2;exact absurd h c2
 rename_i c2;split at h
 .exact absurd h (by decide)
 rename_i c3;split at h
 .exact absurd h (by decide)
 rename_i c4;split at h
 .exact absurd h (by decide)
 rename_i c5;have c1:(qUa qia m).Code=0:=Classical.byContradiction c1;have c2:(jTa nm sz mx).Code=0:=Classical.byContradiction c2;obtain ⟨g1,g2⟩:=QEa c1;obtain ⟨_,q1,q2,q3,q4⟩:=JPa c2;have cx:Ctx qia nm m sz mx mx.toNat:=⟨g1,⟨q2,q1⟩,g2,q3,by omega,by omega,h1,h2,by decide⟩;refine ⟨mx.toNat,cx,?_⟩;have o:=Kta (p:=p) cx;obtain ⟨D,U,fx⟩:∃D U,Fx (zZa qia m p) (sv nm sz mx false false [] []) (repB (rG nm)) D U:=by
  by_cases hb:((zia m.Message).length:Int)<=sz
  .exact ⟨_,_,(JWa cx hb).1⟩
  obtain ⟨D,fx,_⟩:=fx_bad (p:=p) cx (by omega);exact ⟨_,_,fx⟩
 have hs:srvF (sv nm sz mx false false [] [])=⟨0,0⟩:=by
  unfold srvF;rw[if_neg (by show ¬(jTa nm sz mx).Code≠0;simp[c2])];have:okB (sv nm sz mx false false [] [])=true:=by
   refine jHb ⟨.inl rfl,?_,rfl,?_,fun _=>⟨rfl,rfl⟩,?_,?_,?_,?_,fun _ _=>⟨rfl,rfl⟩,fun _=>⟨?_,rfl,rfl,rfl,rfl,rfl⟩,?_,?_,?_,.inl rfl⟩
   .show (0:Int)<=mx;omega
   .intro h;cases h
   .intro h;cases h
   .show (0:Int)<=sz;omega
   .exact ⟨jDg _,by show (0:Int)<=_;omega⟩
   .exact ⟨jDg _,by show (0:Int)<=_;omega⟩
   .show 0<=4001;omega
   .intro h;exact absurd h (show ¬(0:Int)=1 by decide)
   .intro h;exact absurd h (show ¬(0:Int)=2 by decide)
   intro h;exact absurd h (show ¬(0:Int)=3 by decide)
  rw[this,if_neg (by decide)]
 have hlow:repB (rG nm) <+:D:=by rw[<-fx.rep];exact jCn _ _
 have h0:Hist (zZa qia m p) (sv nm sz mx false false [] []) (repB (rG nm)) ⟨zZa qia m p,sv nm sz mx false false [] [],repB (rG nm),[],[]⟩ [] []:=
  ⟨rfl,rfl,by show []++repB (rG nm)=repB (rG nm)++ [];simp,rfl,rfl,fun _ _ _=>⟨List.nil_prefix,List.nil_prefix⟩⟩
 obtain ⟨y,d,u,e1,hy,l1,l2⟩:=steps_eq o rfl hs fx cuts (fun c hc=>by
  have:cutB c=false:=by
   cases hq:cutB c with
   | false=>rfl
   | true=>exact absurd (List.any_eq_true.2 ⟨c,hc,hq⟩) c4
  unfold cutB at this;simp only[jCe,decide_eq_false_iff_not]at this;omega) (by omega) _ _ _ _ 0 loss (jAn _) h0 (by omega) (by omega) (by simp)
 have hdl:=(hy.le D U fx).1.length_le;have hD:=fx.dl;obtain ⟨ok,_⟩:=K5a o (d:=d) (by show 0+_<=_;omega);have hp1:d <+:repB (rG nm)++q2a (zTa (s00 nm sz mx) u).replies:=by
  have:=hy.dn;rw[show (⟨sv nm sz mx false false [] [],[],[]⟩:Ses)=s00 nm sz mx from rfl]at this;rw[<-this];exact jCn _ _
 have hp2:u <+:(zDa (zZa qia m p) d).Out:=by rw[<-hy.up];exact jCn _ _
 refine ⟨d,u,?_,hp1,hp2,hy.le,fun e=>?_,fun e=>l2 e⟩
 .unfold kna;rw[show (([99,108,105,101,110,116]:Str))=qia from rfl,jpb qia m p (by decide) h1 h2,VXb nm sz mx (by omega)];simp only[jAc,zBa,zAa];rw[wkb c1,VZb c2];simp only[show ((0:Int) !=0)=false from rfl,cond_false];rw[decide_eq_false (by omega)];obtain ⟨j,hj,hj2⟩:=wjb cuts (by omega);simp only[cond_false];rw[hj];simp only[jAc];rw[hj2,show cuts.any cutB=false by simpa using c4];have e:((bif decide (loss < (-1)) then some true else some (decide (1000000 < loss))):Option Bool)=some false:=by
   rw[decide_eq_false (by omega),decide_eq_false (by omega)];rfl
  simp only[cond_false];rw[e];simp only[jAc,cond_false];rw[kfb _ [rG nm] (fun r hr=>by rw[jBi.1 hr];exact okR_G cx) (by simp) (by simp)];simp only[jAc];have e2:dwn ⟨zZa qia m p,sv nm sz mx false false [] [],[],[],[]⟩ ([]++q2a [rG nm])=⟨zZa qia m p,sv nm sz mx false false [] [],repB (rG nm),[],[]⟩:=by
   rw[jBm,y3a];rfl
  rw[e2];have e3:iter (kBa cuts) (0,loss,⟨zZa qia m p,sv nm sz mx false false [] [],repB (rG nm),[],[]⟩)=some y:=e1;rw[e3];simp only[jAc];have hml:y.mails=(zTa (s00 nm sz mx) u).mails:=hy.ml;rw[hy.cl];cases hdn:(zDa (zZa qia m p) d).C.Done with
  | true=>
   simp only[jBf,cond_false,jAc];rw[hml,hy.cl];unfold finR;rw[if_pos hdn];rfl
  | false=>
   simp only[jDn,cond_true];rw[close_eq _ ok.small];unfold QYb;rw[QWb ok,if_neg (by decide)];simp only[jAc];rw[hml];unfold finR;rw[if_neg (by rw[hdn];decide)];rfl
 obtain ⟨z1,z2⟩:=l1 e;have d1:=hy.dn;have u1:=hy.up;rw[z1,jBj]at d1;rw[z2,jBj]at u1;exact ⟨d1,u1⟩
end
end
section
section
variable {m:zva} {nm:Str} {sz mx:Int} {p:Bool} {cuts:List Int} {loss:Int}
theorem yDb(h1:jka m.Envelope)(h2:yha m.Message)(h:(ZXa m nm sz mx cuts loss).Code=0):∃K M r,Ctx qia nm m sz mx K/\kna m nm sz mx p cuts loss=some (M,r,⟨0,0⟩)/\Outc nm m K M r:=by
 obtain ⟨K,cx,d,u,e,p1,p2,le,_,_⟩:=Vya (p:=p) h1 h2 h;refine ⟨K,_,_,cx,e,?_⟩;by_cases hb:((zia m.Message).length:Int)<=sz
 .obtain ⟨l1,l2⟩:=le _ _ (JWa cx hb).1;exact VWb cx hb l1 l2 p1 p2
 obtain ⟨D,fx,hc,hm⟩:=fx_bad (p:=p) cx (by omega);obtain ⟨l1,l2⟩:=le _ _ fx;exact outc_bad cx fx hc hm l1 l2
theorem yEb(h1:jka m.Envelope)(h2:yha m.Message)(h:(ZXa m nm sz mx cuts (-1)).Code=0)(hb:((zia m.Message).length:Int)<=sz)(hK:(m.Envelope.To.length:Int)<=mx):
 kna m nm sz mx p cuts (-1)=some ([⟨⟨m.Envelope.From,m.Envelope.To,nm++ [45]++Lib.decDigits 1⟩,m.Message⟩],List.replicate m.Envelope.To.length 1,⟨0,0⟩):=by
 obtain ⟨K,cx,d,u,e,_,_,le,l1,_⟩:=Vya (p:=p) h1 h2 h;obtain ⟨a1,a2⟩:=le _ _ (JWa cx hb).1;obtain ⟨b1,b2⟩:=l1 rfl;obtain ⟨c1,c2⟩:=Z8b cx hb a1 a2 b1 b2;have hk:m.Envelope.To.length<=K:=by have:=cx.many;omega
 rw[e,c1,c2];have e1:gotM nm m K=⟨⟨m.Envelope.From,m.Envelope.To,nm++ [45]++Lib.decDigits 1⟩,m.Message⟩:=by
  unfold gotM;rw[jCm hk]
 have e2:resL K m.Envelope.To.length (m.Envelope.To.length+3)=List.replicate m.Envelope.To.length 0:=by
  refine List.ext_getElem? fun i=>?_
  by_cases hi:i < m.Envelope.To.length
  .rw[WVa hi,if_neg (by omega),List.getElem?_replicate,if_pos hi]
  rw[jBt (by rw[Wga];omega),jBt (by rw[List.length_replicate];omega)]
 rw[e1,e2];unfold ZQa;rw[List.map_replicate];rfl
end
theorem tran_ex:ZXa sM [109,120] 1000 10 [] (-1)=⟨0,0⟩/\ZXa sM [109,120] 1000 10 [1] 0=⟨0,0⟩/\ZXa sM [109,120] 1000 10 [0] 0=⟨3, -25⟩:=by
 have e1:qUa qia sM=⟨0,0⟩:=by kernel_rfl
 have e2:jTa [109,120] 1000 10=⟨0,0⟩:=by kernel_rfl
 unfold ZXa;rw[e1,e2];exact ⟨rfl,rfl,rfl⟩
theorem JYa:wXa=some true:=by
 obtain ⟨t1,t2,t3⟩:=tran_ex;obtain ⟨s1,s2⟩:=sM_small;have w1:=yEb (p:=true) (cuts:=[]) s1 s2 (by rw[t1]) (show ((zia sM.Message).length:Int)<=1000 by decide) (show (1:Int)<=10 by decide);have w2:kna sM [109,120] 1000 10 false [1] 0=some ([],[2],⟨0,0⟩):=by
  obtain ⟨K,cx,d,u,e,_,_,_,_,l2⟩:=Vya (p:=false) s1 s2 (show (ZXa sM [109,120] 1000 10 [1] 0).Code=0 by rw[t2]);obtain ⟨rfl,rfl⟩:=l2 rfl;rw[e];rfl
 have w3:=Yoa (p:=false) s1 s2 (by decide) (by decide) (show (ZXa sM [109,120] 1000 10 [0] 0).Code≠0 by rw[t3];decide);unfold wXa;rw[Q1b];simp only[jAc];rw[w1,w2,w3,t3];simp only[jAc,R_At_eq];rw[show List.replicate sM.Envelope.To.length (1:Int)=[1] from rfl,vJb [1] (by decide),vJb [2] (by decide)];rfl
theorem Kbb{l:List zba}{s:Str}(hl:l.length<=1048576)(h:∀r∈l,r.Address≠s):jBa l s=some (-1):=by
 rw[zOb l s hl];cases hf:zPa (fun i x=>if x.Address==s then some ((i:Nat):Int) else none) 0 l with
 | none=>rfl
 | some r=>
  obtain ⟨i,x,hi,hq⟩:=wNa hf;rw[if_neg (by simpa using h x (jAj hi))]at hq;cases hq
theorem jUb{l:List zba}{i:Nat}{r:zba}(hl:l.length<=1048576)(hn:(l.map (·.Address)).Nodup)(h:l[i]? =some r):jBa l r.Address=some (i:Int):=by
 rw[zOb l _ hl];cases hf:zPa (fun i x=>if x.Address==r.Address then some ((i:Nat):Int) else none) 0 l with
 | none=>
  have:=qca.1 hf i r h;rw[if_pos (by simp)]at this;cases this
 | some v=>
  obtain ⟨j,x,hj,hq⟩:=wNa hf;by_cases hx:x.Address=r.Address
  .rw[if_pos (by simpa using hx)]at hq;cases hq;have e1:(l.map (·.Address))[j]? =some r.Address:=by rw[jAk,hj];exact congrArg some hx
   have e2:(l.map (·.Address))[i]? =some r.Address:=by rw[jAk,h];rfl
   have hlt:=(jAd.1 e1).1;have:=(List.getElem?_inj hlt hn).1 (e1.trans e2.symm);rw[this,jCq];rfl
  rw[if_neg (by simpa using hx)]at hq;cases hq
theorem Kcb{l:List zba}{K i:Nat}{r:zba}(hl:l.length<=1048576)(hn:(l.map (·.Address)).Nodup)(h:l[i]? =some r):∃v,jBa (l.take K) r.Address=some v/\decide (0<=v)=decide (i < K):=by
 have hs:((l.take K).map (·.Address)).Nodup:=hn.sublist ((List.take_sublist _ _).map _);by_cases hk:i < K
 .refine ⟨(i:Int),jUb (by rw[jBq];omega) hs (by rw[List.getElem?_take,if_pos hk];exact h),?_⟩;rw[decide_eq_true hk];exact decide_eq_true (by omega)
 refine ⟨-1,Kbb (by rw[jBq];omega) ?_,by rw[decide_eq_false hk];rfl⟩;intro q hq he;obtain ⟨j,hj⟩:=List.mem_iff_getElem?.1 hq;rw[List.getElem?_take]at hj;split at hj
 .rename_i hjk;have e1:(l.map (·.Address))[j]? =some r.Address:=by rw[jAk,hj];exact congrArg some he
  have e2:(l.map (·.Address))[i]? =some r.Address:=by rw[jAk,h];rfl
  have hlt:=(jAd.1 e1).1;have:=(List.getElem?_inj hlt hn).1 (e1.trans e2.symm);omega
 cases hj
end
theorem y8a(a0:zva)(a1:Int)(a2:Int)(a3:Bool)(a4:List Int)(a5:Int)(o0:zva.ok a0)(o1:ok64 a1)(o2:ok64 a2)(o3:True)(o4:okL ok64 a4)(o5:ok64 a5)(hk:zva.bk a0+1+1+1+bkL (fun _=>1) a4+1<=1048576):qga a0 a1 a2 a3 a4 a5=some true:=by
 have hb:zva.bk a0<=1048576:=by omega
 have s1:jka a0.Envelope:=Qib (by unfold zva.bk at hb;omega);have s2:yha a0.Message:=Qsb (by unfold zva.bk at hb;omega);have hcl:=kRb (bk:=fun _:Int=>1) (fun x=>by simp) a4;have hto:a0.Envelope.To.length<=1048576:=by obtain ⟨_,_,h,_⟩:=s1;exact h
 unfold qga;rw[JYa];by_cases h:(ZXa a0 [109,120] a1 a2 a4 a5).Code=0
 .obtain ⟨K,M,r,cx,e,mo,hl,hr⟩:=yDb (p:=a3) s1 s2 h;have hnd:=cx.nodup;rw[e];have hM:M.length<=1:=by rcases mo with rfl | rfl <;> simp
  simp only[jAc,jBf,cond_false,show ((0:Int) !=0)=false from rfl];rw[decide_eq_false (show ¬(1:Int) < (M.length:Int) by omega),show ((r.length:Int) !=(a0.Envelope.To.length:Int))=false by rw[hl];simp];simp only[jAc,cond_false];have l1:iter (z7a a0 (M,r,⟨0,0⟩)) 0=some (.inl ()):=by
   refine kba r (fun _ _=>(none:Option Bool)) (.inl ()) .inr (by unfold z7a;dsimp only;rw[kLa];rfl) (fun i x hx=>?_) |>.trans ?_
   .have hi:=kja hx;obtain ⟨x1,x2,x3⟩:=hr i x hx;obtain ⟨q,hq⟩:∃q,a0.Envelope.To[i]? =some q:=⟨_,jAi (by omega)⟩;have hacc:((bif ((M.length:Int)==1) then (idx M 0).bind fun v24=>(idx a0.Envelope.To (i:Int)).bind fun v26=>(jBa v24.Envelope.To v26.Address).bind fun v28=>some (decide (0<=v28)) else some false):Option Bool)=some (decide (M=[gotM [109,120] a0 K]/\i < K)):=by
     rcases mo with rfl | rfl
     .rfl
     obtain ⟨v,hv,hv2⟩:=Kcb (K:=K) hto hnd hq;rw[kaa hq];show ((jBa (a0.Envelope.To.take K) q.Address).bind fun v28=>some (decide (0<=v28)))=_;rw[hv];simp only[jAc,hv2,true_and]
    unfold z7a;dsimp only;rw[qOa hx,hacc];simp only[cond_true,jAc];rw[kaa hx,sc i (by omega)];simp only[jAc];have h0:(x==0)=false:=by rw[beq_eq_false_iff_ne];omega
    rw[h0];by_cases ha:M=[gotM [109,120] a0 K]/\i < K
    .rw[decide_eq_true ha];rcases x3 ha.1 ha.2 with rfl | rfl <;> rfl
    rw[decide_eq_false ha];have h1:(x==1)=false:=by rw[beq_eq_false_iff_ne];exact fun h1=>ha (x2 h1)
    rw[h1];rfl
   have:zPa (fun (_:Nat) (_:Int)=>(none:Option Bool)) 0 r=none:=qca.2 fun _ _ _=>rfl
   rw[this];rfl
  rw[l1];simp only[jAc,Sum.elim_inl];rcases mo with rfl | rfl
  .rfl
  have hlen:(([gotM [109,120] a0 K].length:Int)==0)=false:=rfl;rw[hlen];simp only[cond_false];have l2:iter (z8a a0 ([gotM [109,120] a0 K],r,⟨0,0⟩)) 0=some (.inl ()):=by
   have ht:(gotM [109,120] a0 K).Envelope.To=a0.Envelope.To.take K:=rfl;refine kba (a0.Envelope.To.take K) (fun _ _=>(none:Option Bool)) (.inl ()) .inr ?_ (fun i x hx=>?_) |>.trans ?_
   .unfold z8a;show (bif decide (((a0.Envelope.To.take K).length:Int) < ((a0.Envelope.To.take K).length:Int)) then _ else _)=_;rw[kLa];rfl
   .have hi:=kja hx;have hxt:a0.Envelope.To[i]? =some x:=by
     rw[List.getElem?_take]at hx;split at hx
     .exact hx
     cases hx
    unfold z8a;rw[show idx ([gotM [109,120] a0 K],r,(⟨0,0⟩:zpa)).1 0=some (gotM [109,120] a0 K) from rfl];simp only[jAc,ht];rw[qOa hx,kaa hx];simp only[cond_true,jAc];rw[jUb hto hnd hxt];simp only[jAc];rw[kaa hxt,decide_eq_false (by omega)];simp only[cond_false,jAc];rw[show wra [(x.Address==x.Address),(x.Notify==x.Notify)]=true by simp[wra],sc i (by rw[jBq]at hi;omega)];rfl
   have:zPa (fun (_:Nat) (_:zba)=>(none:Option Bool)) 0 (a0.Envelope.To.take K)=none:=qca.2 fun _ _ _=>rfl
   rw[this];rfl
  rw[l2];simp only[jAc,Sum.elim_inl];rw[show idx [gotM [109,120] a0 K] 0=some (gotM [109,120] a0 K) from rfl];simp only[jAc];rw[show ((gotM [109,120] a0 K).Envelope.From==a0.Envelope.From)=true by show (a0.Envelope.From==a0.Envelope.From)=true;simp];simp only[cond_true];rw[show (gotM [109,120] a0 K).Message=a0.Message from rfl,V4a _ s2.1.1];rfl
 rw[Yoa s1 s2 (by decide) (by omega) h];have e:((ZXa a0 [109,120] a1 a2 a4 a5).Code !=0)=true:=by simpa using h
 simp only[jAc,jBf,cond_false,e,cond_true];rfl
section
section
variable {E:Env} {T:Tab} {fr:Fr} {σ:Sto} {k:KS} {ops:Array Oper} {l:List Oper} {V R:Type} {r:R} {A B:Option R} {t:Bool} {g:GS}
def isR:Exit->Bool
 | .normal=>true
 | .ret=>true
 | _=>false
theorem V0b{e:Exit}(h:isR e=true):isN e=true∨e=.ret:=by cases e <;> simp_all [isR,isN]
theorem jx(n:Nat){J:Type}{a j:J}(hr:some a=some j){frs:J->Fr}{stos:J->Sto}(hT:kia E.P T:=by exact tk)(h:GS.run T E.N n g=some (.at .normal fr σ (.jo frs stos (fun z=>j=z) k)):=by exact rfl)(hf:(frs a).map fr.sel=frs a:=by exact rfl)(hs:(stos a).map σ.sel=(stos a).map (fun p=>some p.2):=by exact rfl):g.holds E:=
 rn hT n h (by cases hr;exact jn _ rfl hf hs)
theorem kx(n:Nat){a r:R}(hr:some a=some r){fn:Func}{rv:AV}{cs:List AV}{e:Exit}{hm:Mono (Kret E.P fn rv)}(hT:kia E.P T:=by exact tk)(h:GS.run T E.N n g=some (.at e fr σ (.base (Kret E.P fn rv) hm)):=by exact rfl)(he:isR e=true:=by exact rfl)(hc:VTa T fr σ fn.results.toList=some cs:=by exact rfl)(hv:some a=some r->VKa cs=rv:=by (rintro ⟨⟩;exact rfl)):g.holds E:=
 rn hT n h (kr hT (V0b he) hc (hv hr))
theorem cx(n:Nat){A B:Type}{s:A}{x:Step A B}(hr:some (.cont s)=some x){frs:A->Fr}{stos:A->Sto}{O:B->Post}{hm:Mono (Zya frs stos O x)}(hT:kia E.P T:=by exact tk)(h:GS.run T E.N n g=some (.at .normal fr σ (.base (Zya frs stos O x) hm)):=by exact rfl)(hf:(frs s).map fr.sel=frs s:=by exact rfl)(hs:(stos s).map σ.sel=(stos s).map (fun p=>some p.2):=by exact rfl):g.holds E:=
 rn hT n h (by cases hr;exact ⟨rfl,frw hf,stw hs⟩)
theorem ox(n:Nat){A B:Type}{b:B}{x:Step A B}(hr:some (.out b)=some x){e:Exit}{frs:A->Fr}{stos:A->Sto}{e0:B->Exit}{fr0:B->Fr}{σ0:B->Sto}{hm:Mono (Zya frs stos (fun b=>At (e0 b) (fr0 b) (σ0 b)) x)}(hT:kia E.P T:=by exact tk)(h:GS.run T E.N n g=some (.at e fr σ (.base (Zya frs stos (fun b=>At (e0 b) (fr0 b) (σ0 b)) x) hm)):=by exact rfl)(he:e=e0 b:=by exact rfl)(hn:isN e=false:=by exact rfl)(hf:(fr0 b).map fr.sel=fr0 b:=by exact rfl)(hs:(σ0 b).map σ.sel=(σ0 b).map (fun p=>some p.2):=by exact rfl):g.holds E:=
 rn hT n h (by cases hr;exact ato he hn hf hs)
theorem sxx(n:Nat){a r:R}(hr:some a=some r){fn:Func}{rv w:AV}{σ1:Sto}{Tm:Array Value}{H:Nat}{cs:List AV}{e:Exit}{hm:Mono (q4b E.P fn rv w H Tm σ1)}(hT:kia E.P T:=by exact tk)(h:GS.run T E.N n g=some (.at e fr σ (.base (q4b E.P fn rv w H Tm σ1) hm)):=by exact rfl)(he:isR e=true:=by exact rfl)(hc:VTa T fr σ fn.results.toList=some cs:=by exact rfl)(hv:some a=some r->VKa cs=rv:=by (rintro ⟨⟩;exact rfl))(hs:some a=some r->((H,.hold w (Tm.getD 0 undef))::σ1).map σ.sel=((H,.hold w (Tm.getD 0 undef))::σ1).map (fun p=>some p.2):=by (rintro ⟨⟩;exact rfl)):g.holds E:=
 rn hT n h (krS hT (V0b he) hc (hv hr) (stw (hs hr)))
theorem ax(n d:Nat){x y:Code}(hr:(bif t then A else B)=some r)(hA:A=some r->(GS.code x ((d,.pv (.b (.bool true)))::fr) σ k).holds E)(hB:B=some r->(GS.code y ((d,.pv (.b (.bool false)))::fr) σ k).holds E)(hT:kia E.P T:=by exact tk)(h:GS.run T E.N n g=some (.code (.cond (.tmp d) x y) fr σ k):=by exact rfl)(hd:fr.get d=.pv (.b (.bool t)):=by exact rfl):g.holds E:=
 rn hT n h (ac d hr hd (fun _=>hA) (fun _=>hB))
theorem bx(n d:Nat)(hr:(bif t then A else B)=some r)(hA:t=true->A=some r->(GS.ops ops l ((d,.pv (.b (.bool true)))::fr) σ k).holds E)(hB:t=false->B=some r->(GS.ops ops l ((d,.pv (.b (.bool false)))::fr) σ k).holds E)(hT:kia E.P T:=by exact tk)(h:GS.run T E.N n g=some (.ops ops l fr σ k):=by exact rfl)(hd:fr.get d=.pv (.b (.bool t)):=by exact rfl):g.holds E:=
 rn hT n h (bs d hr hd hA hB)
theorem clx(n:Nat){X:Option V}{F:V->Option R}(hr:X.bind F=some r){f:FuncId}{d:Nat}{xs:List Operand}{ats:Array TypeId}{args:List AV}{rv:V->AV}{ty:TypeId}{pos:String}{af:Array Edge}(hc:∀v,X=some v->Run E.P f args (rv v))(hq:∀v,X=some v->F v=some r->(GS.ops ops l ((d,rv v)::fr) σ k).holds E)(hT:kia E.P T:=by exact tk)(h:GS.run T E.N n g=some (.ops ops (⟨some d,.call ⟨.value (.func f),xs.toArray,ats⟩,ty,pos,af,none⟩::l) fr σ k):=by exact rfl)(hN:Nat.ble (d+1) E.N=true:=by exact rfl)(ha:xs.map (fun x=>(fr.ev x).weak)=args:=by exact rfl):g.holds E:=by
 obtain ⟨v,h1,h2⟩:=zaa hr;exact rn hT n h (cl (hc v h1) hN ha (hq v h1 h2))
theorem csx(n:Nat){X:Option V}{F:V->Option R}(hr:X.bind F=some r){f:FuncId}{d O:Nat}{xs:List Operand}{ats:Array TypeId}{args:List AV}{rv:V->AV}{σ0:Sto}{σ1:V->Sto}{rows:List Nat}{ty:TypeId}{pos:String}{af:Array Edge}(hc:∀v,X=some v->RunS E.P f args σ0 (rv v) (σ1 v) O rows)(hq:∀v,X=some v->F v=some r->(GS.ops ops l ((d,rv v)::fr.clrs rows) (σ1 v++(σ.dels (O::rows)).clrs rows) k).holds E)(hT:kia E.P T:=by exact tk)(h:GS.run T E.N n g=some (.ops ops (⟨some d,.call ⟨.value (.func f),xs.toArray,ats⟩,ty,pos,af,none⟩::l) fr σ k):=by exact rfl)(hN:Nat.ble (d+1) E.N=true:=by exact rfl)(ha:xs.map (fun x=>(fr.ev x).weak)=args:=by exact rfl)(hs:σ0.map σ.sel=σ0.map (fun p=>some p.2):=by exact rfl):g.holds E:=by
 obtain ⟨v,h1,h2⟩:=zaa hr;exact rn hT n h (wo (Qua (hc v h1) hN ha (stw hs)) rfl (hq v h1 h2))
theorem rfx{P:Program}{f:FuncId}{fn:Func}{c:Code}{args:List AV}{r:AV}(hf:P.funcs[f]? =some fn)
 (h:∀g0 (hg:Gl g0),(GS.code c (k0a 0 args) [] (.base (Kret P fn r) qXb)).holds ⟨P,none,g0,fn.ntmps,false,hg,fun _=>False,fun _ _ h=>h⟩)
 (hb : fn.body = some c := by exact rfl) (hn : (fn.name == "runtime.NumGoroutine") = false := by kernel_rfl) (hN : Nat.ble args.length fn.ntmps = true := by exact rfl) (hr : ∀ k, r.has k = false := by exact fun _ => rfl) : Run P f args r := rf ⟨hf, hb, hn⟩ hN hr h
end
end
section
def Fr.px(fr:Fr):List Nat->Option Fr
 | []=>some []
 | k::ks=>match (fr.get k).force with
  | some a=>(match Fr.px fr ks with | some r=>some ((k,a)::r) | none=>none)
  | none=>none
theorem Fr.px_ok{fr:Fr}:∀{ks:List Nat} {r:Fr},fr.px ks=some r->FrLe fr r/\r.map (fun p=>fr.get p.1)=r.map (·.2)
 | [],r,h=>by cases h;exact ⟨kpb,rfl⟩
 | k::ks,r,h=>by
  unfold Fr.px at h;split at h
  .rename_i a ha;split at h
   .rename_i r1 h1;cases h;obtain ⟨q1,q2⟩:=Fr.px_ok h1;refine ⟨Y0a (AV.force_eq ha) q1,?_⟩;simp only[jCh,q2,AV.force_eq ha]
   cases h
  cases h
def Sto.px(σ:Sto):List Nat->Option Sto
 | []=>some []
 | k::ks=>match σ.get k with
  | some a=>(match Sto.px σ ks with | some r=>some ((k,a)::r) | none=>none)
  | none=>none
section
variable {E:Env} {T:Tab} {fr fr' :Fr} {σ σ' :Sto} {k:KS} {ops:Array Oper} {l:List Oper} {R:Type} {r:R} {g:GS}
theorem jq(n:Nat){J:Type}{X:Option J}{f:J->Option R}(hr:X.bind f=some r)(ks os:List Nat)(F:J->Fr)(S:J->Sto){x y:Code}(hx:∀j,X=some j->(GS.code x fr σ (.jo (fun j=>F j++fr') (fun j=>S j++σ') (fun z=>j=z) k)).holds E)(hy:∀j,f j=some r->(GS.code y (F j++fr') (S j++σ') k).holds E)
 (hT:kia E.P T:=by exact tk) (h:GS.run T E.N n g=some (.code (.seq x y) fr σ k):=by exact rfl) (hf:fr.px ks=some fr' :=by exact rfl) (hs:σ.px os=some σ' :=by exact rfl):g.holds E:=
 rn hT n h (jb hr (fun j=>F j++fr') (fun j=>S j++σ') hx hy)
theorem jkq(n:Nat){J:Type}(ks os:List Nat)(F:J->Fr)(S:J->Sto)(M:J->Prop){x y:Code}(hx:(GS.code x fr σ (.jo (fun j=>F j++fr') (fun j=>S j++σ') M k)).holds E)(hy:∀j,M j->(GS.code y (F j++fr') (S j++σ') k).holds E)
 (hT:kia E.P T:=by exact tk) (h:GS.run T E.N n g=some (.code (.seq x y) fr σ k):=by exact rfl) (hf:fr.px ks=some fr' :=by exact rfl) (hs:σ.px os=some σ' :=by exact rfl):g.holds E:=
 rn hT n h (jk (fun j=>F j++fr') (fun j=>S j++σ') M hx hy)
theorem ctq(n:Nat){J:Type}{X:Option J}{f:J->Option R}{o:Oper}(hr:X.bind f=some r)(ks os:List Nat)(F:J->Fr)(S:J->Sto)
 (hx:∀j,X=some j->(∀fr1 σ1,(F j++fr').map fr1.sel=F j++fr' ->(S j++σ').map σ1.sel=(S j++σ').map (fun p=>some p.2)->AWPL E ops l fr1 σ1 (k.post E))->(GS.ops ops (o::l) fr σ k).holds E) (hy:∀j,f j=some r->(GS.ops ops l (F j++fr') (S j++σ') k).holds E)
 (hT:kia E.P T:=by exact tk) (h:GS.run T E.N n g=some (.ops ops (o::l) fr σ k):=by exact rfl) (hf:fr.px ks=some fr' :=by exact rfl) (hs:σ.px os=some σ' :=by exact rfl):g.holds E:=
 rn hT n h (ct hr (fun j=>F j++fr') (fun j=>S j++σ') hx hy)
theorem aq1(n:Nat){A B:Type}{c:Code}{body:A->Option (Step A B)}{s:A}{f:B->Option R}(hr:(iter body s).bind f=some r)(ks os:List Nat)(F:A->Fr)(S:A->Sto)(e0:Exit)(ks1 os1:List Nat)(F1:B->Fr)(S1:B->Sto){fr1:Fr}{σ1:Sto}
 (h:∀s x,body s=some x->(GS.code c (F s++fr') (S s++σ') (.base (Zya (fun s=>F s++fr') (fun s=>S s++σ') (fun b=>At ((fun _=>e0) b) (F1 b++fr1) (S1 b++σ1)) x) ZEa)).holds E)
 (hK:∀b,f b=some r->(GS.at e0 (F1 b++fr1) (S1 b++σ1) k).holds E)
 (hT:kia E.P T:=by exact tk) (hg:GS.run T E.N n g=some (.code (.loop c) fr σ k):=by exact rfl) (h1:fr.px ks=some fr' :=by exact rfl) (h2:σ.px os=some σ' :=by exact rfl) (h3:fr.px ks1=some fr1:=by exact rfl) (h4:σ.px os1=some σ1:=by exact rfl) (hf:(F s++fr').map fr.sel=F s++fr' :=by exact rfl) (hs:(S s++σ').map σ.sel=(S s++σ').map (fun p=>some p.2):=by exact rfl):g.holds E:=
 rn hT n hg (al1 hr (fun s=>F s++fr') (fun s=>S s++σ') e0 (fun b=>F1 b++fr1) (fun b=>S1 b++σ1) hf hs h hK)
theorem aq2(n:Nat){A B C:Type}{c:Code}{body:A->Option (Step A (B ⊕ C))}{s:A}{f:B->Option R}{f2:C->Option R}(hr:(iter body s).bind (Sum.elim f f2)=some r)(ks os:List Nat)(F:A->Fr)(S:A->Sto)(e1:Exit)(ks1 os1:List Nat)(F1:B->Fr)(S1:B->Sto)(e2:Exit)(ks2 os2:List Nat)(F2:C->Fr)(S2:C->Sto){fr1 fr2:Fr}{σ1 σ2:Sto}
 (h:∀s x,body s=some x->(GS.code c (F s++fr') (S s++σ') (.base (Zya (fun s=>F s++fr') (fun s=>S s++σ') (fun b=>At (Sum.elim (fun _=>e1) (fun _=>e2) b) (Sum.elim (fun b=>F1 b++fr1) (fun b=>F2 b++fr2) b) (Sum.elim (fun b=>S1 b++σ1) (fun b=>S2 b++σ2) b)) x) ZEa)).holds E)
 (hK1:∀b,f b=some r->(GS.at e1 (F1 b++fr1) (S1 b++σ1) k).holds E) (hK2:∀b,f2 b=some r->(GS.at e2 (F2 b++fr2) (S2 b++σ2) k).holds E)
 (hT:kia E.P T:=by exact tk) (hg:GS.run T E.N n g=some (.code (.loop c) fr σ k):=by exact rfl) (h1:fr.px ks=some fr' :=by exact rfl) (h2:σ.px os=some σ' :=by exact rfl) (h3:fr.px ks1=some fr1:=by exact rfl) (h4:σ.px os1=some σ1:=by exact rfl) (h5:fr.px ks2=some fr2:=by exact rfl) (h6:σ.px os2=some σ2:=by exact rfl) (hf:(F s++fr').map fr.sel=F s++fr' :=by exact rfl) (hs:(S s++σ').map σ.sel=(S s++σ').map (fun p=>some p.2):=by exact rfl):g.holds E:=
 rn hT n hg (al2 hr (fun s=>F s++fr') (fun s=>S s++σ') e1 (fun b=>F1 b++fr1) (fun b=>S1 b++σ1) e2 (fun b=>F2 b++fr2) (fun b=>S2 b++σ2) hf hs h hK1 hK2)
def fjoin(a b c:List AV):Option (List AV):=jza (a++b++c)
theorem iq(n:Nat){d f:Nat}{fn:Func}{c:Code}{fx:Operand}{xs:List Operand}{ats:Array TypeId}{first cap args:List AV}{ty:TypeId}{pos:String}{af:Array Edge}(base:Nat)(ks:List Nat){keep:Fr}(hok:FnOk E.P f fn c)
 (h:∀(T:Array Value) (ds:List Deferred),(GS.code c (k0a 0 args) ((base+99999,.sus E.g0.w.heap.size ds)::(holds base T keep++σ)) (.base (InlK E ops l d fn base (base+99999) T ds (k.post E)) yZb)).holds ⟨E.P,none,E.g0,fn.ntmps,true,E.gl,E.S,E.sg⟩)
 (hT:kia E.P T:=by exact tk) (hg:GS.run T E.N n g=some (.ops ops (⟨some d,.call ⟨.value fx,xs.toArray,ats⟩,ty,pos,af,none⟩::l) fr σ k):=by exact rfl) (hf:fr.ev fx=.fn (.func f) first cap:=by exact rfl) (ha:fjoin first (xs.map fr.ev) cap=some args:=by exact rfl) (hN:(Nat.ble (d+1) E.N && Nat.ble args.length fn.ntmps)=true:=by exact rfl) (hk:fr.px ks=some keep:=by exact rfl):g.holds E:=
 rn hT n hg (il base (base+99999) keep hf hok hN (vEa ha) (Fr.px_ok hk).2 h)
def Sto.held(base:Nat):Sto->Option Fr
 | []=>some []
 | (k,ob)::r=>match ob with
  | .hold v _=>(match (Nat.ble base k && Nat.ble (k+1) (base+99999)) with
   | true=>(match v.force,Sto.held base r with | some a,some f=>some ((k - base,a)::f) | _,_=>none)
   | false=>Sto.held base r)
  | _=>Sto.held base r
def Sto.less(base:Nat):Sto->Option Sto
 | []=>some []
 | (k,ob)::r=>match (Nat.ble base k && Nat.ble k (base+99999)) with
  | true=>Sto.less base r
  | false=>(match Sto.less base r with | some f=>some ((k,ob)::f) | none=>none)
theorem ieq{E' :Env}(n:Nat){fr2:Fr}{σ2:Sto}{cs:List AV}{d:Nat}{fn:Func}{base:Nat}{Tm:Array Value}{ds:List Deferred}{e:Exit}{hm:Mono (InlK E ops l d fn base (base+99999) Tm ds (k.post E))}
 (h:AWPL E ops l ((d,VKa cs)::fr2) σ2 (k.post E)) (hT:kia E'.P T:=by exact tk) (hg:GS.run T E'.N n g=some (.at e fr σ (.base (InlK E ops l d fn base (base+99999) Tm ds (k.post E)) hm)):=by exact rfl) (he:isR e=true:=by exact rfl) (hr:VTa T fr σ fn.results.toList=some cs:=by exact rfl) (h1:σ.held base=some fr2:=by exact rfl) (h2:σ.less base=some σ2:=by exact rfl)
 (hh:fr2.map (fun p=>σ.get (base+p.1))=fr2.map (fun p=>some (.hold p.2 (Tm.getD p.1 undef))):=by exact rfl) (hsu:σ.get (base+99999)=some (.sus E.g0.w.heap.size ds):=by exact rfl) (hle:σ2.map σ.sel=σ2.map (fun p=>some p.2):=by exact rfl) (hE:E.P=E'.P:=by exact rfl):g.holds E' :=
 rn hT n hg (ie (hE▸hT) cs fr2 σ2 (V0b he) hr hh hsu hle h)
def purL(l:List Oper)(cs:List (Option AV))(fr:Fr):Fr:=purF l cs (allT l)++fr
theorem mdq(n:Nat){id:Nat}(tl:List (Nat × AV))(ks:List Nat){frJ:Fr}{ss:List Sto}{σJ:Sto}{cs:List (Option AV)}(ht:Told E l cs fr (σ::ss) tl)(h:(GS.at .normal frJ σJ k).holds E)
 (hmix:E.P.follows .mixedOrders=true) (hT:kia E.P T:=by exact tk) (hg:GS.run T E.N n g=some (.code (.region id l.toArray true) fr σ k):=by exact rfl) (hz:zrun T E.N tl l 0 fr σ=some (cs,ss,σJ):=by exact rfl)
 (hk:(zchk E.N tl l cs,(List.range ((hvL l cs).length+1)).map (fun k=>(purK l cs tl k).map (kLb T l cs fr (stoK σ ss k))),(List.range (hvL l cs).length).map (stoD T E.N l cs fr σ ss),stoK σ ss (hvL l cs).length)=(true,(List.range ((hvL l cs).length+1)).map (fun k=>(purK l cs tl k).map (QNa cs)),(List.range (hvL l cs).length).map (fun k=>some (stoK σ ss (k+1))),σJ):=by kernel_rfl)
 (hf:(purL l cs fr).px ks=some frJ:=by exact rfl):g.holds E:=
 rn hT n hg (mc hT tl frJ hmix hz hk ht (Fr.px_ok hf).1 h)
end
end
section
variable {E:Env} {T:Tab} {fr FR:Fr} {σ:Sto} {k:KS} {l:List Oper} {cs:List AV} {kn:List (Nat × Bool)} {tl:List (Nat × AV)} {g:GS}
def kget:List (Nat × Bool)->Nat->Option Bool
 | [],_=>none
 | (d,b)::r,i=>bif Nat.beq d i then some b else kget r i
inductive wlb (FR:Fr):List (Nat × Bool)->Prop
 | nil:wlb FR []
 | cons {d:Nat} {b t:Bool} {r:List (Nat × Bool)} (hv:FR.get d=.pv (.b (.bool t))) (ht:t=b) (hr:wlb FR r):wlb FR ((d,b)::r)
theorem wlb.get(h:wlb FR kn){d:Nat}{b:Bool}(hk:kget kn d=some b):∃t,FR.get d=.pv (.b (.bool t))/\t=b:=by
 induction h with
 | nil=>cases hk
 | @cons e b' t r hv ht _ ih=>
  unfold kget at hk;cases hb:Nat.beq e d with
  | true=>rw[hb]at hk;cases hk;have:=jAm hb;subst this;exact ⟨t,hv,ht⟩
  | false=>rw[hb]at hk;exact ih hk
def gsee(l:List Oper)(kn:List (Nat × Bool))(FR:Fr)(o:Oper):Option Bool:=match o.guard with
 | none=>some true
 | some (j,want)=>(match (l[j]?).bind (·.dst) with
  | none=>none
  | some d=>(match kget kn d with
   | some b=>some (b==want)
   | none=>(match FR.get d with | .tup []=>some false | .pv (.b (.bool t))=>(match t,want with | true,w=>some w | false,w=>some (!w)) | _=>none)))
theorem yFb(hk:wlb FR kn){o:Oper}{b:Bool}(h:gsee l kn FR o=some b):(b=true->wHa l.toArray FR o)/\(b=false->Z4a l.toArray FR o):=by
 unfold gsee at h;split at h
 .rename_i hg;cases h;exact ⟨fun _=>.plain hg,fun e=>by cases e⟩
 rename_i j want hg;split at h
 .cases h
 rename_i d hd;have hj:(l.toArray[j]?).bind (·.dst)=some d:=by simpa using hd
 split at h
 .rename_i b' hb;obtain ⟨t,hv,ht⟩:=hk.get hb;cases h;refine ⟨fun e=>.yes hg hj hv ?_,fun e=>.no hg hj hv ?_⟩
  .rw[ht];simpa using e
  rw[ht];cases b' <;> cases want <;> simp_all
 split at h
 .rename_i hv;cases h;exact ⟨fun e=>(by cases e),fun _=>.none hg hj hv⟩
 .rename_i t hv;split at h
  .cases h;exact ⟨fun e=>.yes hg hj hv e.symm,fun e=>.no hg hj hv (by rw[e];rfl)⟩
  cases h;exact ⟨fun e=>.yes hg hj hv (by cases want <;> simp_all),fun e=>.no hg hj hv (by cases want <;> simp_all)⟩
 cases h
def dval(T:Tab)(kn:List (Nat × Bool))(FR:Fr)(σ:Sto)(op:Op):Option AV:=match op with
 | .pick (.tmp d) x y=>(match kget kn d with | some true=>(FR.ev x).force | some false=>(FR.ev y).force | none=>qval T FR.ev σ op)
 | _=>qval T FR.ev σ op
theorem dval_ok(hT:kia E.P T)(hk:wlb FR kn){o:Oper}{c:AV}(h:dval T kn FR σ o.op=some c):OpG E o FR σ c:=by
 obtain ⟨dst,op,ty,pos,af,gu⟩:=o;dsimp only at h;unfold dval at h;split at h
 .split at h
  .rename_i hb;obtain ⟨t,hv,ht⟩:=hk.get hb;rw[<-AV.force_eq h];exact kda (qIb hv ht)
  .rename_i hb;obtain ⟨t,hv,ht⟩:=hk.get hb;rw[<-AV.force_eq h];exact kda (qJb hv ht)
  exact kda (WDa hT h)
 exact kda (WDa hT h)
def drun(T:Tab)(l:List Oper)(kn:List (Nat × Bool))(σ:Sto)(tl:List (Nat × AV)):List Oper->Nat->Fr->Option (List AV)
 | [],_,_=>some []
 | o::r,i,fr=>match o.dst with
  | none=>none
  | some d=>(match (match gsee l kn fr o with
   | some true=>(match tget tl i with | some c=>some c | none=>dval T kn fr σ o.op)
   | some false=>some (.tup [])
   | none=>none) with
   | some c=>(match drun T l kn σ tl r (i+1) ((d,c)::fr) with | some cs=>some (c::cs) | none=>none)
   | none=>none)
def dchk(T:Tab)(l:List Oper)(kn:List (Nat × Bool))(FR:Fr)(σ:Sto)(tl:List (Nat × AV))(cs:List AV)(i:Nat):Option AV:=match l[i]? with
 | none=>none
 | some o=>(match gsee l kn FR o with
  | some true=>(match tget tl i with | some _=>cs[i]? | none=>dval T kn FR σ o.op)
  | some false=>some (.tup [])
  | none=>none)
inductive Kdb (E:Env) (l:List Oper) (cs:List AV) (FR:Fr) (σ:Sto):List (Nat × AV)->Prop
 | nil:Kdb E l cs FR σ []
 | cons {i:Nat} {c:AV} {o:Oper} {r:List (Nat × AV)} (ho:l[i]? =some o) (hc:cs[i]? =some c) (h:OpG E o FR σ c) (hr:Kdb E l cs FR σ r):Kdb E l cs FR σ ((i,c)::r)
theorem Kdb.get(h:Kdb E l cs FR σ tl){i:Nat}{c:AV}(hi:tget tl i=some c):∃o c,l[i]? =some o/\cs[i]? =some c/\OpG E o FR σ c:=by
 induction h with
 | nil=>cases hi
 | @cons k c o r ho hc h _ ih=>
  unfold tget at hi;cases hb:Nat.beq k i with
  | true=>have:=jAm hb;subst this;exact ⟨o,c,ho,hc,h⟩
  | false=>rw[hb]at hi;exact ih hi
theorem V1b:∀{l' :List Oper} {cs' :List AV},cs'.length=l'.length->(∀(i:Nat) o c,l'[i]? =some o->cs'[i]? =some c->(wHa l.toArray FR o/\OpG E o FR σ c)∨(Z4a l.toArray FR o/\c=.tup []))->Pres E l.toArray FR σ l' cs'
 | [],[],_,_=>.nil
 | [],_::_,h,_=>by simp at h
 | _::_,[],h,_=>by simp at h
 | o::r,c::cs,hl,h=>by
  have ih:=V1b (l' :=r) (cs' :=cs) (by simpa using hl) fun i o c h1 h2=>h (i+1) o c (by simpa using h1) (by simpa using h2)
  rcases h 0 o c rfl rfl with ⟨h1,h2⟩ | ⟨h1,rfl⟩
  .exact .run h1 h2 ih
  exact .skip h1 ih
def jVb:Fr->Option Fr
 | []=>some []
 | (k,a)::r=>match a.force with
  | some a' =>(match jVb r with | some r' =>some ((k,a')::r') | none=>none)
  | none=>none
theorem wmb:∀{f f' :Fr},jVb f=some f' ->f=f'
 | [],_,h=>by cases h;rfl
 | (k,a)::r,f',h=>by
  unfold jVb at h;split at h
  .rename_i a' ha;split at h
   .rename_i r' hr;cases h;rw[AV.force_eq ha,wmb hr]
   cases h
  cases h
theorem dq(n:Nat){id:Nat}(m:Nat)(kn:List (Nat × Bool))(tl:List (Nat × AV)){new:Fr}(hf:wlb (new++fr) kn)(ht:Kdb E l cs (new++fr) σ tl)(h:(GS.ops l.toArray (l.drop m) (new++fr) σ k).holds E)
 (hmix:E.P.follows .mixedOrders=true) (hT:kia E.P T:=by exact tk) (hg:GS.run T E.N n g=some (.code (.region id l.toArray true) fr σ k):=by exact rfl) (hz:drun T l kn σ tl (l.take m) 0 fr=some cs:=by exact rfl) (hn:jVb (Wya (l.take m) cs [])=some new:=by exact rfl)
 (hk:(KDb l m && Nat.ble m l.length && ((l.take m).all fun o=>o.dst.all fun d=>Nat.ble (d+1) E.N) && Nat.beq cs.length m,(List.range m).map (dchk T l kn (new++fr) σ tl cs))=(true,(List.range m).map (cs[·]?)):=by kernel_rfl):g.holds E:=by
 have k1:=congrArg Prod.fst hk;have k2:=congrArg Prod.snd hk;simp only[jAh]at k1;obtain ⟨⟨⟨q1,q2⟩,q3⟩,q4⟩:=k1;have hlen:=jAm q4;have hm:=jAf q2;refine rn hT n hg (KEb m new hmix q1 q2 q3 (V1b (by simp;omega) fun i o c h1 h2=>?_) (wmb hn) h);have him:i < m:=by have:=(jAd.1 h1).1;simp at this;omega
 rw[jBc him]at h1;have e:=List.map_inj_left.1 k2 i (jEk.2 him);unfold dchk at e;rw[h1,h2]at e;dsimp only at e;split at e
 .rename_i hg;split at e
  .rename_i c' hc;obtain ⟨o',c'',e1,e2,e3⟩:=ht.get hc;rw[h1]at e1;rw[h2]at e2;cases e1;cases e2;exact .inl ⟨(yFb hf hg).1 rfl,e3⟩
  exact .inl ⟨(yFb hf hg).1 rfl,dval_ok hT hf e⟩
 .rename_i hg;cases e;exact .inr ⟨(yFb hf hg).2 rfl,rfl⟩
 cases e
end
section
open Go.RowKit Go.Lib Go.Proofs.Tryz
variable {E:Env} {T:Tab} {fr:Fr} {σ:Sto} {k:KS} {l:List Oper} {cs:List (Option AV)} {all:List Node} {H:List Bool} {K:Post} {g:GS}
abbrev HvF:=Fr->Sto->Fr × Sto
def hget:List (Nat × HvF)->Nat->Option HvF
 | [],_=>none
 | (k,c)::r,i=>bif Nat.beq k i then some c else hget r i
def mrun(T:Tab)(tl:List (Nat × AV))(hl:List (Nat × HvF)):List Oper->Nat->Fr->Sto->Option (List (Option AV))
 | [],_,_,_=>some []
 | o::r,i,fr,σ=>match hget hl i with
  | some F=>(match F fr σ with | (f',s')=>(match mrun T tl hl r (i+1) f' s' with | some cs=>some (none::cs) | none=>none))
  | none=>(match o.dst with
   | none=>none
   | some d=>(match (match tget tl i with | some c=>some c | none=>qval T fr.ev σ o.op) with
    | some c=>(match mrun T tl hl r (i+1) ((d,c)::fr) σ with | some cs=>some (some c::cs) | none=>none)
    | none=>none))
def runH(hl:List (Nat × HvF)):List Nat->Fr->Sto->Option (Fr × Sto)
 | [],f,s=>some (f,s)
 | i::r,f,s=>match hget hl i with
  | some F=>(match F f s with | (f',s')=>runH hl r f' s')
  | none=>none
def ndsF(n:Nat)(hl:List (Nat × HvF))(fr:Fr)(σ:Sto):List (List Nat)->Option (List Node)
 | []=>some []
 | h::r=>match runH hl h fr σ with
  | some (f,s)=>(match ndsF n hl fr σ r with | some x=>some (((List.range n).map h.contains,f,s)::x) | none=>none)
  | none=>none
theorem mh(n:Nat){id:Nat}(tl:List (Nat × AV))(hl:List (Nat × HvF))(Hs:List (List Nat))(h:KIa E l cs (k.post E) all all)
 (hmix:E.P.follows .mixedOrders=true) (hT:kia E.P T:=by exact tk) (hg:GS.run T E.N n g=some (.code (.region id l.toArray true) fr σ k):=by exact rfl) (hz:mrun T tl hl l 0 fr σ=some cs:=by exact rfl) (hn:ndsF l.length hl fr σ Hs=some all:=by exact rfl)
 (hok:(y2b E.N l cs,all[0]?)=(true,some (List.replicate l.length false,fr,σ)):=by kernel_rfl):g.holds E:=
 rn hT n hg (zGb cs all hmix (congrArg Prod.fst hok) (congrArg Prod.snd hok) rfl vUa qka h)
theorem mfq(hT:kia E.P T)(is ks:List Nat){frJ:Fr}(h2:wsa E l cs all H fr σ is)(h:K .normal frJ σ)(h1:((KKa l cs H is).map (kLb T l cs fr σ),(KKa l cs H is).all (fun i=>(QNa cs i).isSome))=((KKa l cs H is).map (QNa cs),true):=by kernel_rfl)(hf:(purL l cs fr).px ks=some frJ:=by exact rfl):kJb E l cs K all (H,fr,σ):=
 mf hT is frJ h1 h2 (Fr.px_ok hf).1 h
theorem mnq(hT:kia E.P T)(is:List Nat)(h2:wsa E l cs all H fr σ is)(h1:(((List.range l.length).all fun i=> !(isHv cs i) || H.getD i false),(KKa l cs H is).map (kLb T l cs fr σ),(KKa l cs H is).all (fun i=>(QNa cs i).isSome))=(false,(KKa l cs H is).map (QNa cs),true):=by kernel_rfl):kJb E l cs K all (H,fr,σ):=mn hT is h1 h2
theorem mstw(j:Nat){i:Nat}{o:Oper}{σ' s2:Sto}{f2:Fr}{H2:List Bool}(h:HvS E o (purF l cs (allT l)++fr) σ σ')(ho:l[i]? =some o:=by exact rfl)(hn:all[j]? =some (H2,f2,s2):=by exact rfl)(e:(cs[i]?,H2,f2.map fr.sel,s2.map σ'.sel)=(some none,H.set i true,f2,s2.map (fun p=>some p.2)):=by kernel_rfl):Jca E l cs all H fr σ i:=
 .sto j ho (congrArg Prod.fst e) h (by have e2:H2=H.set i true:=congrArg (fun x=>x.2.1) e;rw[hn,e2]) (frw (congrArg (fun x=>x.2.2.1) e)) (stw (congrArg (fun x=>x.2.2.2) e))
theorem mdtw(j:Nat){i k:Nat}{o:Oper}{c:AV}{rs:List Nat}{σ' s2:Sto}{f2:Fr}{H2:List Bool}(h:HvD E o (purF l cs (allT l)++fr) σ k c rs σ')(ho:l[i]? =some o:=by exact rfl)(hn:all[j]? =some (H2,f2,s2):=by exact rfl)
 (e:(cs[i]?,H2,f2.map (Fr.sel ((k,c)::fr.clrs rs)),s2.map σ'.sel,((List.range l.length).all fun i=>jda l cs i !=some k),q6b cs rs)=(some none,H.set i true,f2,s2.map (fun p=>some p.2),true,true):=by kernel_rfl):Jca E l cs all H fr σ i:=
 .dst j ho (congrArg (fun x=>x.1) e) (congrArg (fun x=>x.2.2.2.2.1) e) (congrArg (fun x=>x.2.2.2.2.2) e) h (by have e2:H2=H.set i true:=congrArg (fun x=>x.2.1) e;rw[hn,e2]) (frw (congrArg (fun x=>x.2.2.1) e)) (stw (congrArg (fun x=>x.2.2.2.1) e))
theorem mstq(j:Nat){i:Nat}{o:Oper}{σ' :Sto}(h:HvS E o (purF l cs (allT l)++fr) σ σ')(ho:l[i]? =some o:=by exact rfl)(e:(cs[i]?,all[j]?)=(some none,some (H.set i true,fr,σ')):=by kernel_rfl):Jca E l cs all H fr σ i:=mst j ho h e
theorem mdtq(j:Nat){i k:Nat}{o:Oper}{c:AV}{rs:List Nat}{σ' :Sto}(h:HvD E o (purF l cs (allT l)++fr) σ k c rs σ')(ho:l[i]? =some o:=by exact rfl)(e:(((List.range l.length).all fun i=>jda l cs i !=some k),q6b cs rs,cs[i]?,all[j]?)=(true,true,some none,some (H.set i true,(k,c)::fr.clrs rs,σ')):=by kernel_rfl):Jca E l cs all H fr σ i:=mdt j ho h e
theorem mpu{i:Nat}{o:Oper}{c:AV}(h:OpG E o (purF l cs (allT l)++fr) σ c)(ho:l[i]? =some o:=by exact rfl)(hc:cs[i]? =some (some c):=by exact rfl):Jca E l cs all H fr σ i:=.pure ho hc h
end
theorem Qca(a0:List Str)(r:zva)(hr:Kba a0=some r):Run prog 33 [.l cS a0] (.agg (zN0 r)):=by
 unfold Kba at hr;refine rfx (fn:=f33) func33 fun g0 hg=>?_
 refine rn tk 10 rfl ?_;refine kMa 1003 (o:=3) (j:=1) 43 2 rfl rfl rfl rfl (hO ?_);refine rn tk 1 rfl ?_;refine kMa 2003 (o:=3) (j:=1) 43 2 rfl rfl rfl rfl (hO ?_);refine aq1 9 hr [0,2,3] [] (fun s1=>[(4,.i s1.1)]) (fun s1=>[(2003,.row 43 false 2 (List.map zba.pc s1.2)),(3,.cells [.s (([115,64,120]:Str)),.hs 2003 0,.s (([55]:Str)),.l zga.pc ([]),.l cU ([])]),(2,.cells [.s (([]:Str)),.l zba.pc ([]),.s (([]:Str)),.l zga.pc ([]),.l cU ([])])]) (.exit 0) [2,3] [] (fun _=>[]) (fun b2=>[(2003,.row 43 false 2 (List.map zba.pc b2)),(3,.cells [.s (([115,64,120]:Str)),.hs 2003 0,.s (([55]:Str)),.l zga.pc ([]),.l cU ([])]),(2,.cells [.s (([]:Str)),.l zba.pc ([]),.s (([]:Str)),.l zga.pc ([]),.l cU ([])])]) (fun s1 x3 hr=>?_) (fun b2 hr=>?_)
 .unfold Kaa at hr;refine rn tk 5 rfl<|wn tk rfl rfl rfl ?_;refine ax 3 10 hr (fun hr=>?_) fun hr=>?_
  .refine rn tk 4 rfl ?_;obtain ⟨v5,h6,hr⟩:=zaa hr;obtain ⟨v7,h8,hr⟩:=zaa hr;refine mh 0 [(5,.ep [pS v5]),(8,.l zba.pc (([(zba.mk v5 1)]:List zba)))] [(2,fun f s=>((15,.hs 2003 0)::f,s)),(9,fun f s=>((22,.hs 2003 0)::Fr.clrs [2003] f,(Sto.upd (Sto.clr 2003 s) 2003 (.row 43 false 2 (List.map zba.pc v7))))),(12,fun f s=>(f,(Sto.upd s 3 (.cells [.s (([115,64,120]:Str)),.hs 2003 0,.s (([55]:Str)),.l zga.pc ([]),.l cU ([])]))))] [[],[2],[2,9],[2,9,12]] ?_ mixed;refine .cons (mnq tk [2,5,8] (.cons (mdtq 1 (hv_g rfl rfl (mqz tk rfl))) (.cons (mpu (kda (yNa (f:=cS) rfl rfl Z9a zHa rfl h6))) (.cons (mpu (wna (F:=zba.pc) (l:=([(zba.mk v5 1)]:List zba)) zha zwa rfl (fun _=>rfl) rfl rfl)) .nil)))) (.cons (mnq tk [5,8,9] (.cons (mpu (kda (yNa (f:=cS) rfl rfl Z9a zHa rfl h6))) (.cons (mpu (wna (F:=zba.pc) (l:=([(zba.mk v5 1)]:List zba)) zha zwa rfl (fun _=>rfl) rfl rfl)) (.cons (mdtq 2 (jAa (F:=zba.pc) (l:=s1.2) (xs:=(([(zba.mk v5 1)]:List zba))) (lim:=5864062014805) rfl rfl rfl rfl zha zwa rfl rfl (fun _=>rfl) rfl h8)) .nil)))) (.cons (mnq tk [12] (.cons (mstq 3 (qea rfl rfl rfl zha rfl rfl)) .nil)) (.cons (mfq tk [] [0,2,3,4] .nil (hA ?_)) .nil)));exact cx 7 hr
  exact ox 2 hr
 refine rn tk 8 rfl ?_;refine Qra (o:=2) (j:=1) (F:=zba.pc) (l:=b2) rfl rfl rfl (hC ?_);exact kx 1 hr
theorem Wpa(a0:Int)(a1:Int)(r:zpa)(hr:R_At a0 a1=some r):Run prog 27 [.i a0,.i a1] (.agg [.i r.Code,.i r.Index]):=by
 unfold R_At at hr;refine rfx (fn:=f27) func27 fun g0 hg=>?_
 exact kx 14 hr
theorem QJa(a0:List Int)(a1:List Int)(r:Bool)(hr:zKb a0 a1=some r):Run prog 11 [.l cI a0,.l cI a1] (.bo r):=by
 unfold zKb at hr;refine rfx (fn:=f11) func11 fun g0 hg=>?_
 refine rn tk 9 rfl<|wn tk rfl rfl rfl<|rn tk 1 rfl<|wn tk rfl rfl rfl ?_;refine ax 3 10 hr (fun hr=>?_) fun hr=>?_
 .exact kx 7 hr
 refine aq2 9 hr [0,1] [] (fun s2=>[(5,.i s2)]) (fun _=>[]) (.exit 0) [] [] (fun _=>[]) (fun _=>[]) .ret [] [] (fun b4=>[(4,.bo b4)]) (fun _=>[]) (fun s2 x6 hr=>?_) (fun b3 hr=>?_) (fun b4 hr=>?_)
 .unfold VZa at hr;refine rn tk 5 rfl<|wn tk rfl rfl rfl ?_;refine ax 3 14 hr (fun hr=>?_) fun hr=>?_
  .refine rn tk 5 rfl ?_;obtain ⟨v8,h9,hr⟩:=zaa hr;obtain ⟨v10,h11,hr⟩:=zaa hr;refine mdq 0 [(2,.ep [pI v8]),(6,.ep [pI v10])] [0,1,5,25] (.cons rfl rfl (t0 (kda (yNa (f:=cI) rfl rfl q6a kOa rfl h9))) (.cons rfl rfl (t0 (kda (yNa (f:=cI) rfl rfl q6a kOa rfl h11))) .nil)) ?_ mixed;refine ax 1 25 hr (fun hr=>?_) fun hr=>?_
   .exact ox 8 hr
   exact cx 8 hr
  exact ox 2 hr
 .exact kx 8 hr
 exact kx 2 hr
theorem zxa(a0:zpa)(r:Bool)(hr:zEa a0=some r):Run prog 16 [.agg [.i a0.Code,.i a0.Index]] (.bo r):=by
 unfold zEa at hr;refine rfx (fn:=f16) func16 fun g0 hg=>?_
 exact kx 15 hr
theorem zea(a0:Int)(a1:Int)(r:zpa)(hr:zka a0 a1=some r):Run prog 18 [.i a0,.i a1] (.agg [.i r.Code,.i r.Index]):=by
 unfold zka at hr;refine rfx (fn:=f18) func18 fun g0 hg=>?_
 exact kx 14 hr
theorem zya(r:zpa)(hr:zIa=some r):Run prog 24 [] (.agg [.i r.Code,.i r.Index]):=by
 unfold zIa at hr;refine rfx (fn:=f24) func24 fun g0 hg=>?_
 exact kx 12 hr
theorem wEa(a0:List zga)(r:List zga)(hr:kea a0=some r):Run prog 61 [.l zga.pc a0] (.l zga.pc r):=by
 unfold kea at hr;refine rfx (fn:=f61) func61 fun g0 hg=>?_
 refine rn tk 9 rfl ?_;refine wQa (d:=3) (F:=zga.pc) (l:=a0) rfl rfl rfl qXa (fun c1=>hO ?_) (hO ?_)
 .replace hr:=j5a c1 hr
  exact kx 10 hr
 replace hr:=j6a hr
 refine rn tk 7 rfl<|wo (yPa (k:=5) rfl qXa vYa) rfl<|rn tk 1 rfl ?_;obtain ⟨v2,h3,hr⟩:=zaa hr;refine wo (vsa (k:=7) (F:=zga.pc) (xs:=a0) (lim:=4398046511104) 1002 rfl rfl rfl qXa vYa rfl rfl (fun _=>rfl) rfl rfl rfl h3) rfl<|rn tk 3 rfl ?_;refine yIa 1002 rfl (hC ?_);refine qWa (d:=2) (F:=zga.pc) (l:=v2) rfl rfl (hC ?_);exact kx 1 hr
theorem yGa(a0:zva)(r:zva)(hr:vza a0=some r):Run prog 35 [.agg (zN0 a0)] (.agg (zN0 r)):=by
 unfold vza at hr;refine rfx (fn:=f35) func35 fun g0 hg=>?_
 refine ctq 11 hr [1,2] [1] (fun j1=>[(6,.l zba.pc j1)]) (fun _=>[(2,.cells [.s (([]:Str)),.l zba.pc ([]),.s (([]:Str)),.l zga.pc ([]),.l cU ([])])]) (fun j1 hr jump1=>?_) (fun j1 hr=>?_)
 .refine iq 0 100000 [1,2] (fn:=f60) ⟨func60,rfl,by kernel_rfl⟩ fun T1 ds1=>?_
  refine rn tk 9 rfl ?_;refine wQa (d:=3) (F:=zba.pc) (l:=a0.Envelope.To) rfl rfl rfl zha (fun c2=>hO ?_) (hO ?_)
  .replace hr:=j5a c2 hr
   refine ieq 10 ?_;cases hr;exact jump1 _ _ rfl rfl
  replace hr:=j6a hr
  refine rn tk 7 rfl<|wo (yPa (k:=5) rfl zha zwa) rfl<|rn tk 1 rfl ?_;obtain ⟨v3,h4,hr⟩:=zaa hr;refine wo (vsa (k:=7) (F:=zba.pc) (xs:=a0.Envelope.To) (lim:=5864062014805) 1002 rfl rfl rfl zha zwa rfl rfl (fun _=>rfl) rfl rfl rfl h4) rfl<|rn tk 3 rfl ?_;refine yIa 1002 rfl (hC ?_);refine qWa (d:=2) (F:=zba.pc) (l:=v3) rfl rfl (hC ?_);refine ieq 1 ?_;cases hr;exact jump1 _ _ rfl rfl
 refine rn tk 6 rfl ?_;obtain ⟨v5,h6,hr⟩:=zaa hr;refine dq 0 7 [] [(3,.l zga.pc v5)] .nil (.cons rfl rfl (zXa (wEa a0.Message.Fields v5 h6) rfl) .nil) ?_ mixed;refine ctq 0 hr [1,2,12] [2,1] (fun j7=>[(16,.l cU j7)]) (fun _=>[]) (fun j7 hr jump2=>?_) (fun j7 hr=>?_)
 .refine iq 0 200000 [1,2,12] (fn:=f62) ⟨func62,rfl,by kernel_rfl⟩ fun T2 ds2=>?_
  refine rn tk 9 rfl ?_;refine wQa (d:=3) (F:=cU) (l:=a0.Message.Body) rfl rfl rfl zja (fun c8=>hO ?_) (hO ?_)
  .replace hr:=j5a c8 hr
   refine ieq 10 ?_;cases hr;exact jump2 _ _ rfl rfl
  replace hr:=j6a hr
  refine rn tk 7 rfl<|wo (yPa (k:=5) rfl zja zCa) rfl<|rn tk 1 rfl ?_;obtain ⟨v9,h10,hr⟩:=zaa hr;refine wo (vsa (k:=7) (F:=cU) (xs:=a0.Message.Body) (lim:=140737488355328) 1002 rfl rfl rfl zja zCa rfl rfl (fun _=>rfl) rfl rfl rfl h10) rfl<|rn tk 3 rfl ?_;refine yIa 1002 rfl (hC ?_);refine qWa (d:=2) (F:=cU) (l:=v9) rfl rfl (hC ?_);refine ieq 1 ?_;cases hr;exact jump2 _ _ rfl rfl
 exact kx 12 hr
theorem ypa(a0:zca)(a1:Int)(r:zca)(hr:kDa a0 a1=some r):RunS prog 76 [.ptr 90000000 0,.i a1] (zca.sto a0) (.tup []) (zca.sto r) 90000000 [90000012,90000015]:=by
 unfold kDa at hr;refine rfS (fn:=f76) (H:=90000999) (.ptr 90000000 0) ⟨func76,rfl,by kernel_rfl⟩ rfl (hasT rfl) (.inl ⟨rfl,rfl⟩) rfl rfl rfl rfl fun g0 hg S sg T=>?_
 refine rn tk 7 rfl<|wnh tk rfl rfl rfl rfl ?_;refine aq1 4 hr [0,1,10,11] [90000999] (fun s1=>[(12,.i s1.1)]) (fun s1=>zca.sto s1.2) (.exit 0) [] [90000999] (fun _=>[]) (fun b2=>zca.sto b2) (fun s1 x3 hr=>?_) (fun b2 hr=>?_)
 .unfold z5a at hr;refine ax 6 13 hr (fun hr=>?_) fun hr=>?_
  .refine jq 2 hr [0,1,10,11,12] [90000999] (fun _=>[]) (fun j5=>zca.sto j5) (fun j5 hr=>?_) (fun j5 hr=>?_)
   .refine rn tk 4 rfl ?_;obtain ⟨v6,h7,hr⟩:=zaa hr;refine wih tk h7 rfl rfl rfl rfl rfl ?_;obtain ⟨v8,h9,hr⟩:=zaa hr;refine wq (VSa (F:=cI) (l:=s1.2.Client.Results) (n:=s1.1) (j:=0) rfl rfl kOa rfl h9 rfl) rfl rfl rfl ?_;refine ax 10 18 hr (fun hr=>?_) fun hr=>?_
    .refine rn tk 8 rfl ?_;obtain ⟨v11,h12,hr⟩:=zaa hr;refine wih tk h12 rfl rfl rfl rfl rfl ?_;obtain ⟨v13,h14,hr⟩:=zaa hr;refine wo (Z6a (F:=cI) (l:=s1.2.Client.Results) (n:=s1.1) (j:=0) (v:=v13) (v' :=a1) (pcs:=[pI a1]) rfl rfl rfl kOa rfl h14 rfl rfl) rfl ?_;exact jx 2 hr
    exact jx 2 hr
   exact cx 4 hr
  exact ox 2 hr
 exact sxx 1 hr
theorem yqa(a0:zca)(r:zca)(hr:k9a a0=some r):RunS prog 44 [.ptr 90000000 0] (zca.sto a0) (.tup []) (zca.sto r) 90000000 [90000012,90000015]:=by
 unfold k9a at hr;refine rfS (fn:=f44) (H:=90000999) (.ptr 90000000 0) ⟨func44,rfl,by kernel_rfl⟩ rfl (hasT rfl) (.inl ⟨rfl,rfl⟩) rfl rfl rfl rfl fun g0 hg S sg T=>?_
 refine jq 5 hr [0] [90000999,90000000,90000012,90000015] (fun j1=>[(2,.i j1)]) (fun _=>[]) (fun j1 hr=>?_) (fun j1 hr=>?_)
 .refine ax 9 7 hr (fun hr=>?_) fun hr=>?_
  .exact jx 3 hr
  exact jx 1 hr
 refine csx 4 hr (ypa a0 j1) fun v3 _ hr=>?_
 exact sxx 9 hr
theorem Qda(a0:List UInt8)(a1:List UInt8)(r:Bool)(hr:vva a0 a1=some r):Run prog 139 [.l cU a0,.l cU a1] (.bo r):=by
 unfold vva at hr;refine rfx (fn:=f139) func139 fun g0 hg=>?_
 refine rn tk 8 rfl<|wb tk rfl rfl rfl<|rn tk 1 rfl<|wb tk rfl rfl rfl ?_;exact kx 5 hr
theorem vBa(a0:List UInt8)(a1:List UInt8)(r:Bool)(hr:z1a a0 a1=some r):Run prog 104 [.l cU a0,.l cU a1] (.bo r):=by
 unfold z1a at hr;refine rfx (fn:=Tryz.f104) func104 fun g0 hg=>?_
 refine jq 5 hr [] [] (fun j1=>[(4,.bo j1)]) (fun _=>[]) (fun j1 hr=>?_) (fun j1 hr=>?_)
 .refine rn tk 2 rfl<|wn tk rfl rfl rfl<|rn tk 1 rfl<|wn tk rfl rfl rfl ?_;refine bx 2 10 hr (fun c2 hr=>?_) fun c2 hr=>?_
  .refine rn tk 2 rfl<|ug rfl rfl rfl<|wn tk rfl rfl rfl<|rn tk 1 rfl<|ug rfl rfl rfl<|wn tk rfl rfl rfl<|rn tk 1 rfl ?_;obtain ⟨v3,h4,hr⟩:=zaa hr;refine ug rfl rfl rfl<|wlL tk h4 rfl rfl rfl (fun _=>rfl) rfl<|rn tk 1 rfl ?_;obtain ⟨v5,h6,hr⟩:=zaa hr;refine ug rfl rfl rfl<|cl (Qda _ _ _ h6) rfl rfl ?_;exact jx 3 hr
  exact jx 12 hr
 exact kx 1 hr
theorem qAb(a0:Str)(r:Bool)(hr:KQa a0=some r):Run prog 203 [.s a0] (.bo r):=by
 unfold KQa at hr;refine rfx (fn:=f203) func203 fun g0 hg=>?_
 refine jq 5 hr [] [] (fun j1=>[(2,.bo j1)]) (fun _=>[]) (fun j1 hr=>?_) (fun j1 hr=>?_)
 .refine bx 4 5 hr (fun c2 hr=>?_) fun c2 hr=>?_
  .refine bx 5 10 hr (fun c3 hr=>?_) fun c3 hr=>?_
   .refine rn tk 1 rfl<|ug rfl rfl rfl ?_;refine ctq 0 hr [10] [] (fun j4=>[(12,.bo j4)]) (fun _=>[]) (fun j4 hr jump4=>?_) (fun j4 hr=>?_)
    .refine iq 0 400000 [10] (fn:=f94) ⟨func94,rfl,by kernel_rfl⟩ fun T4 ds4=>?_
     refine aq2 14 hr [0,1,7] [499999,400010] (fun s5=>[(8,.i s5)]) (fun _=>[]) (.exit 0) [] [499999,400010] (fun _=>[]) (fun _=>[]) .ret [4] [499999,400010] (fun _=>[]) (fun _=>[]) (fun s5 x9 hr=>?_) (fun b6 hr=>?_) (fun b7 hr=>?_)
     .unfold yQa at hr;refine ax 6 9 hr (fun hr=>?_) fun hr=>?_
      .refine rn tk 15 rfl ?_;obtain ⟨v11,h12,hr⟩:=zaa hr;refine ws tk h12 rfl rfl rfl rfl ?_;refine iq 0 600000 [0,1,7,8] (fn:=Tryz.f235) ⟨func235,rfl,by kernel_rfl⟩ fun T6 ds6=>?_
       refine jq 5 hr [] [699999,600000,600001,600007,600008,499999,400010] (fun j13=>[(2,.bo j13)]) (fun _=>[]) (fun j13 hr=>?_) (fun j13 hr=>?_)
       .refine bx 4 5 hr (fun c14 hr=>?_) fun c14 hr=>?_
        .refine bx 4 9 hr (fun c15 hr=>?_) fun c15 hr=>?_
         .exact jx 5 hr
         exact jx 5 hr
        exact jx 9 hr
       refine ieq 1 (hO ?_);refine ax 3 16 hr (fun hr=>?_) fun hr=>?_
       .exact ox 8 hr
       exact cx 7 hr
      exact ox 2 hr
     .refine ieq 8 ?_;cases hr;exact jump4 _ _ rfl rfl
     refine ieq 2 ?_;cases hr;exact jump4 _ _ rfl rfl
    exact jx 3 hr
   exact jx 5 hr
  exact jx 10 hr
 exact kx 1 hr
theorem v6a(a0:UInt8)(r:Bool)(hr:vxa a0=some r):Run prog 226 [.u8 a0] (.bo r):=by
 unfold vxa at hr;refine rfx (fn:=Tryz.f226) func226 fun g0 hg=>?_
 refine jq 5 hr [] [] (fun j1=>[(2,.bo j1)]) (fun _=>[]) (fun j1 hr=>?_) (fun j1 hr=>?_)
 .refine bx 4 5 hr (fun c2 hr=>?_) fun c2 hr=>?_
  .exact jx 5 hr
  exact jx 5 hr
 exact kx 1 hr
theorem zrb(a0:Str)(a1:Int)(r:Int)(hr:ZHa a0 a1=some r):Run prog 205 [.s a0,.i a1] (.i r):=by
 unfold ZHa at hr;refine rfx (fn:=Tryz.f205) func205 fun g0 hg=>?_
 refine rn tk 14 rfl<|wq (ev_max rfl rfl) rfl rfl rfl ?_;refine aq1 4 hr [0] [] (fun s1=>[(5,.i s1.1),(6,.i s1.2)]) (fun _=>[]) (.exit 0) [] [] (fun b2=>[(5,.i b2)]) (fun _=>[]) (fun s1 x3 hr=>?_) (fun b2 hr=>?_)
 .unfold joa at hr;refine ax 9 12 hr (fun hr=>?_) fun hr=>?_
  .refine jkq 2 [0,6] [] (fun j5=>[(5,.i j5)]) (fun _=>[]) (fun j5=>vya s1 j5=some x3) ?_ ?_
   .refine jq 2 hr [0,5,6] [] (fun j6=>[(26,.bo j6)]) (fun _=>[]) (fun j6 hr=>?_) (fun j6 hr=>?_)
    .refine rn tk 3 rfl ?_;obtain ⟨v7,h8,hr⟩:=zaa hr;refine ws tk h8 rfl rfl rfl rfl ?_;refine clx 0 hr (v6a _) fun v9 _ hr=>?_
     refine bx 2 20 hr (fun c11 hr=>?_) fun c11 hr=>?_
     .exact jx 7 hr
     refine rn tk 3 rfl ?_;obtain ⟨v12,h13,hr⟩:=zaa hr;refine ug rfl rfl rfl<|ws tk h13 rfl rfl rfl rfl ?_;obtain ⟨v14,h15,hr⟩:=zaa hr;refine ug rfl rfl rfl<|cl (v6a _ _ h15) rfl rfl ?_;exact jx 2 hr
    refine ax 0 26 hr (fun hr=>?_) fun hr=>?_
    .refine rn tk 3 rfl<|jn s1.1 hr rfl rfl
    refine jq 3 hr [0,5,6] [] (fun j17=>[(32,.bo j17)]) (fun _=>[]) (fun j17 hr=>?_) (fun j17 hr=>?_)
    .refine bx 4 29 hr (fun c18 hr=>?_) fun c18 hr=>?_
     .exact jx 4 hr
     exact jx 4 hr
    refine ax 0 32 hr (fun hr=>?_) fun hr=>?_
    .exact ox 4 hr
    refine rn tk 7 rfl<|jn s1.2 hr rfl rfl
   intro j5 hr;unfold vya at hr;exact cx 5 hr
  exact ox 2 hr
 exact kx 9 hr
end Go.Proofs.YtjjgjalfelnclaaGreatDoor
namespace Go.Proofs
open Go.Shelf
def Tryz.lays156_ren:Go.Shelf.Ren:=⟨fun | 156=>264 | 165=>275 | 166=>276 | 169=>277 | 240=>289 | 241=>290 | 276=>297 | 277=>298 | n=>n,fun | 31=>56 | 9=>9 | 3=>3 | 4=>4 | 0=>0 | 20=>20 | 72=>298 | 76=>211 | 70=>296 | 37=>26 | 75=>210 | 127=>301 | 164=>338 | 5=>5 | 80=>299 | n=>n,fun | n=>n⟩
theorem Tryz.cqz{α:Type}{a:Option α}{x y:α}(h:a=some x)(e:x=y):a=some y:=h.trans (congrArg some e)
theorem Tryz.lays156:Go.Proofs.Lays.n156 prog Tryz.lays156_ren:=⟨by kernel_rfl,cqz func264 (by kernel_rfl),cqz func275 (by kernel_rfl),cqz func276 (by kernel_rfl),cqz func277 (by kernel_rfl),cqz func289 (by kernel_rfl),cqz func290 (by kernel_rfl),cqz func297 (by kernel_rfl),cqz func298 (by kernel_rfl),underlying0,isAgg0,sizeOf0,zeroValue0,underlying3,isAgg3,sizeOf3,zeroValue3,underlying4,isAgg4,sizeOf4,zeroValue4,underlying9,isAgg9,sizeOf9,zeroValue9,underlying20,isAgg20,sizeOf20,zeroValue20,underlying56,isAgg56,sizeOf56,zeroValue56,underlying26,isAgg26,sizeOf26,zeroValue26,underlying296,isAgg296,sizeOf296,zeroValue296,underlying298,isAgg298,sizeOf298,zeroValue298,underlying210,isAgg210,sizeOf210,zeroValue210,underlying211,isAgg211,sizeOf211,zeroValue211,underlying301,isAgg301,sizeOf301,zeroValue301,underlying338,isAgg338,sizeOf338,zeroValue338⟩
theorem Tryz.Builder_Extra_156:Builder.Extra prog Tryz.lays156_ren:={
 sizeBuilder:=by kernel_rfl
 liesBuilder:=by kernel_rfl
 t5:=underlying5
 a5:=isAgg5
 z5:=sizeOf5
 v5:=zeroValue5
 infoByte:=by kernel_rfl
 cellsByte:=by kernel_rfl
 sizeByte:=by kernel_rfl
 neB5:=by decide}
open Go.RowKit in
theorem Tryz.strings_Join_none(a:Option Addr)(c:Nat)(sep:ByteArray)(w:World):
 Calls prog 264 #[.slice a 0 c,.string sep] w fun e w' =>e=.returned (.string ⟨#[]⟩)/\w' =w:=Any.strings_Join_none Tryz.lays156 Tryz.Builder_Extra_156 a c sep w
open Go.RowKit in
theorem Tryz.strings_Join(bk o c:Nat)(xs:List ByteArray)(sep:ByteArray)(w:World)(hcells:∀(j:Nat) x,xs[j]? =some x->w.cell? ⟨bk,o+j,none⟩=some (.string x))(hbk:bk < w.heap.size)(hN:xs.length<=140737488355328)(hcap:xs.length<=c)(hlen:(Lib.join (xs.map (·.data.toList)) sep.data.toList).length<=140737488355328):
 Calls prog 264 #[.slice (some ⟨bk,o,none⟩) xs.length c,.string sep] w fun e w' =>e=.returned (.string ⟨(Lib.join (xs.map (·.data.toList)) sep.data.toList).toArray⟩)/\Below w.heap.size w w' :=Any.strings_Join Tryz.lays156 Tryz.Builder_Extra_156 bk o c xs sep w hcells hbk hN hcap hlen
def Tryz.lays162_ren:Go.Shelf.Ren:=⟨fun | 162=>251 | 232=>254 | 227=>175 | 234=>256 | 236=>258 | 228=>176 | 271=>271 | 151=>270 | 120=>282 | 197=>269 | 152=>173 | 260=>281 | 137=>191 | 119=>206 | 224=>142 | 225=>207 | 217=>220 | 266=>246 | n=>n,fun | 9=>9 | 4=>4 | 3=>3 | 5=>5 | 117=>198 | 116=>197 | 0=>0 | 124=>233 | 21=>21 | 105=>291 | 46=>169 | 119=>314 | 139=>323 | 138=>322 | n=>n,fun | 3=>6 | 4=>7 | n=>n⟩
theorem Tryz.lays162:Go.Proofs.Lays.n162 prog Tryz.lays162_ren:=⟨by kernel_rfl,cqz func206 (by kernel_rfl),cqz func282 (by kernel_rfl),cqz func191 (by kernel_rfl),cqz func270 (by kernel_rfl),cqz func173 (by kernel_rfl),cqz func251 (by kernel_rfl),cqz func269 (by kernel_rfl),cqz func220 (by kernel_rfl),cqz func142 (by kernel_rfl),cqz func207 (by kernel_rfl),cqz func175 (by kernel_rfl),cqz func176 (by kernel_rfl),cqz func254 (by kernel_rfl),cqz func256 (by kernel_rfl),cqz func258 (by kernel_rfl),cqz func281 (by kernel_rfl),cqz func246 (by kernel_rfl),cqz func271 (by kernel_rfl),underlying0,isAgg0,sizeOf0,zeroValue0,underlying3,isAgg3,sizeOf3,zeroValue3,underlying4,isAgg4,sizeOf4,zeroValue4,underlying5,isAgg5,sizeOf5,zeroValue5,underlying9,isAgg9,sizeOf9,zeroValue9,underlying21,isAgg21,sizeOf21,zeroValue21,underlying169,isAgg169,sizeOf169,zeroValue169,underlying291,isAgg291,sizeOf291,zeroValue291,underlying197,isAgg197,sizeOf197,underlying198,isAgg198,sizeOf198,zeroValue198,underlying314,isAgg314,sizeOf314,underlying233,isAgg233,sizeOf233,zeroValue233,underlying322,isAgg322,sizeOf322,zeroValue322,underlying323,isAgg323,sizeOf323,zeroValue323,by kernel_rfl,by kernel_rfl⟩
def Tryz.lays160_ren:Go.Shelf.Ren:=⟨fun | 160=>229 | 232=>254 | 231=>253 | 227=>175 | 234=>256 | 233=>255 | 236=>258 | 235=>257 | 228=>176 | 271=>271 | 151=>270 | 197=>269 | 120=>282 | 152=>173 | 260=>281 | 137=>191 | 119=>206 | 224=>142 | 225=>207 | 217=>220 | 266=>246 | n=>n,fun | 9=>9 | 4=>4 | 3=>3 | 5=>5 | 117=>198 | 116=>197 | 0=>0 | 124=>233 | 21=>21 | 105=>291 | 46=>169 | 119=>314 | 139=>323 | 138=>322 | n=>n,fun | 3=>6 | 4=>7 | n=>n⟩
theorem Tryz.lays160:Go.Proofs.Lays.n160 prog Tryz.lays160_ren:=⟨by kernel_rfl,cqz func206 (by kernel_rfl),cqz func282 (by kernel_rfl),cqz func191 (by kernel_rfl),cqz func270 (by kernel_rfl),cqz func173 (by kernel_rfl),cqz func229 (by kernel_rfl),cqz func269 (by kernel_rfl),cqz func220 (by kernel_rfl),cqz func142 (by kernel_rfl),cqz func207 (by kernel_rfl),cqz func175 (by kernel_rfl),cqz func176 (by kernel_rfl),cqz func253 (by kernel_rfl),cqz func254 (by kernel_rfl),cqz func255 (by kernel_rfl),cqz func256 (by kernel_rfl),cqz func257 (by kernel_rfl),cqz func258 (by kernel_rfl),cqz func281 (by kernel_rfl),cqz func246 (by kernel_rfl),cqz func271 (by kernel_rfl),underlying0,isAgg0,sizeOf0,zeroValue0,underlying3,isAgg3,sizeOf3,zeroValue3,underlying4,isAgg4,sizeOf4,zeroValue4,underlying5,isAgg5,sizeOf5,zeroValue5,underlying9,isAgg9,sizeOf9,zeroValue9,underlying21,isAgg21,sizeOf21,zeroValue21,underlying169,isAgg169,sizeOf169,zeroValue169,underlying291,isAgg291,sizeOf291,zeroValue291,underlying197,isAgg197,sizeOf197,underlying198,isAgg198,sizeOf198,zeroValue198,underlying314,isAgg314,sizeOf314,underlying233,isAgg233,sizeOf233,zeroValue233,underlying322,isAgg322,sizeOf322,zeroValue322,underlying323,isAgg323,sizeOf323,zeroValue323,by kernel_rfl,by kernel_rfl⟩
def Tryz.lays137_ren:Go.Shelf.Ren:=⟨fun | 137=>191 | 217=>220 | 266=>246 | n=>n,fun | 9=>9 | 5=>5 | 3=>3 | n=>n,fun | n=>n⟩
theorem Tryz.lays137:Go.Proofs.Lays.n137 prog Tryz.lays137_ren:=⟨by kernel_rfl,cqz func191 (by kernel_rfl),cqz func220 (by kernel_rfl),cqz func246 (by kernel_rfl),underlying3,isAgg3,sizeOf3,zeroValue3,underlying5,isAgg5,sizeOf5,zeroValue5,underlying9,isAgg9,sizeOf9,zeroValue9⟩
open Go.RowKit in
theorem Tryz.strings_IndexByte(s:ByteArray)(c:Int)(w:World):
 Calls prog 191 #[.string s,.int .u8 c] w fun e w' =>e=.returned (.int .i64 (Lib.indexByte s.data.toList c.toNat.toUInt8))/\w' =w:=Any.strings_IndexByte Tryz.lays137 s c w
def Tryz.lays103_ren:Go.Shelf.Ren:=⟨fun | 103=>231 | 210=>261 | 206=>247 | n=>n,fun | 9=>9 | 4=>4 | 24=>159 | 3=>3 | n=>n,fun | n=>n⟩
theorem Tryz.lays103:Go.Proofs.Lays.n103 prog Tryz.lays103_ren:=⟨by kernel_rfl,cqz func231 (by kernel_rfl),cqz func247 (by kernel_rfl),cqz func261 (by kernel_rfl),underlying3,isAgg3,sizeOf3,zeroValue3,underlying4,isAgg4,sizeOf4,zeroValue4,underlying9,isAgg9,sizeOf9,zeroValue9,underlying159,isAgg159,sizeOf159,zeroValue159⟩
open Go.RowKit in
theorem Tryz.strings_CutPrefix(s p:ByteArray)(w:World):
 Calls prog 231 #[.string s,.string p] w fun e w' =>e=.returned (.tuple #[.string ⟨(Lib.trimPrefix s.data.toList p.data.toList).toArray⟩,.bool (Lib.hasPrefix s.data.toList p.data.toList)])/\w' =w:=Any.strings_CutPrefix Tryz.lays103 s p w
def Tryz.lays104_ren:Go.Shelf.Ren:=⟨fun | 104=>232 | 211=>262 | 207=>248 | n=>n,fun | 9=>9 | 4=>4 | 24=>159 | 3=>3 | n=>n,fun | n=>n⟩
theorem Tryz.lays104:Go.Proofs.Lays.n104 prog Tryz.lays104_ren:=⟨by kernel_rfl,cqz func232 (by kernel_rfl),cqz func248 (by kernel_rfl),cqz func262 (by kernel_rfl),underlying3,isAgg3,sizeOf3,zeroValue3,underlying4,isAgg4,sizeOf4,zeroValue4,underlying9,isAgg9,sizeOf9,zeroValue9,underlying159,isAgg159,sizeOf159,zeroValue159⟩
open Go.RowKit in
theorem Tryz.strings_CutSuffix(s p:ByteArray)(w:World)(hs:s.size<=9223372036854775807):
 Calls prog 232 #[.string s,.string p] w fun e w' =>e=.returned (.tuple #[.string ⟨(Lib.trimSuffix s.data.toList p.data.toList).toArray⟩,.bool (Lib.hasSuffix s.data.toList p.data.toList)])/\w' =w:=Any.strings_CutSuffix Tryz.lays104 s p w hs
def Tryz.lays172_ren:Go.Shelf.Ren:=⟨fun | 172=>184 | 244=>213 | 245=>214 | 247=>239 | 279=>240 | 280=>241 | 281=>242 | 282=>243 | 287=>265 | 316=>266 | 171=>64 | 205=>267 | 321=>278 | 322=>279 | 243=>101 | 246=>138 | 283=>177 | 284=>178 | 285=>179 | 286=>180 | 129=>209 | 317=>208 | 318=>210 | 319=>211 | 320=>212 | 337=>237 | 338=>238 | n=>n,fun | 9=>9 | 3=>3 | 75=>210 | 76=>211 | 4=>4 | 5=>5 | 167=>253 | 37=>26 | 0=>0 | 85=>254 | 2=>2 | 168=>256 | 53=>201 | 175=>286 | 46=>169 | 210=>289 | 127=>301 | 145=>304 | 143=>302 | 21=>21 | 171=>200 | 173=>204 | 212=>235 | 51=>206 | 20=>20 | 213=>236 | 232=>284 | 233=>285 | 80=>299 | n=>n,fun | 15=>4 | 16=>5 | 17=>1 | 18=>2 | 19=>3 | n=>n⟩
theorem Tryz.lays172:Go.Proofs.Lays.n172 prog Tryz.lays172_ren:=⟨by kernel_rfl,cqz func209 (by kernel_rfl),cqz func64 (by kernel_rfl),cqz func184 (by kernel_rfl),cqz func267 (by kernel_rfl),cqz func101 (by kernel_rfl),cqz func213 (by kernel_rfl),cqz func214 (by kernel_rfl),cqz func138 (by kernel_rfl),cqz func239 (by kernel_rfl),cqz func240 (by kernel_rfl),cqz func241 (by kernel_rfl),cqz func242 (by kernel_rfl),cqz func243 (by kernel_rfl),cqz func177 (by kernel_rfl),cqz func178 (by kernel_rfl),cqz func179 (by kernel_rfl),cqz func180 (by kernel_rfl),cqz func265 (by kernel_rfl),cqz func266 (by kernel_rfl),cqz func208 (by kernel_rfl),cqz func210 (by kernel_rfl),cqz func211 (by kernel_rfl),cqz func212 (by kernel_rfl),cqz func278 (by kernel_rfl),cqz func279 (by kernel_rfl),cqz func237 (by kernel_rfl),cqz func238 (by kernel_rfl),underlying0,isAgg0,sizeOf0,zeroValue0,underlying2,isAgg2,sizeOf2,zeroValue2,underlying3,isAgg3,sizeOf3,zeroValue3,underlying4,isAgg4,sizeOf4,zeroValue4,underlying5,isAgg5,sizeOf5,zeroValue5,underlying9,isAgg9,sizeOf9,zeroValue9,underlying20,isAgg20,sizeOf20,zeroValue20,underlying21,isAgg21,sizeOf21,zeroValue21,underlying26,isAgg26,sizeOf26,zeroValue26,underlying169,isAgg169,sizeOf169,zeroValue169,underlying206,isAgg206,sizeOf206,zeroValue206,underlying201,isAgg201,sizeOf201,zeroValue201,underlying210,isAgg210,sizeOf210,zeroValue210,underlying211,isAgg211,sizeOf211,zeroValue211,underlying254,isAgg254,sizeOf254,zeroValue254,underlying301,isAgg301,sizeOf301,zeroValue301,underlying302,isAgg302,sizeOf302,zeroValue302,underlying304,isAgg304,sizeOf304,zeroValue304,underlying253,isAgg253,sizeOf253,zeroValue253,underlying256,isAgg256,sizeOf256,zeroValue256,underlying200,isAgg200,sizeOf200,zeroValue200,underlying204,isAgg204,sizeOf204,zeroValue204,underlying286,isAgg286,sizeOf286,zeroValue286,underlying289,isAgg289,sizeOf289,zeroValue289,underlying235,isAgg235,sizeOf235,zeroValue235,underlying236,isAgg236,sizeOf236,underlying284,isAgg284,sizeOf284,zeroValue284,underlying285,isAgg285,sizeOf285,zeroValue285,by kernel_rfl,by kernel_rfl,by kernel_rfl,by kernel_rfl,by kernel_rfl⟩
open Go.RowKit in
theorem Tryz.strconv_Atoi(s:ByteArray)(n:Int)(hl:s.size<=18)(h:Lib.atoi s.data.toList=some n)(w:World):
 Calls prog 184 #[.string s] w fun e w' =>e=.returned (.tuple #[.int .i64 n,.nilIface])/\∃t,w' =Lib.bytesWorld w 5 t:=Any.strconv_Atoi Tryz.lays172 s n hl h w
def Tryz.laysM171_ren:Go.Shelf.Ren:=⟨fun | 171=>64 | 243=>101 | 246=>138 | 283=>177 | 284=>178 | 285=>179 | 286=>180 | 129=>209 | 317=>208 | 318=>210 | 319=>211 | 320=>212 | 337=>237 | 338=>238 | n=>n,fun | 3=>3 | 9=>9 | 2=>2 | 4=>4 | 171=>200 | 0=>0 | 53=>201 | 37=>26 | 5=>5 | 173=>204 | 212=>235 | 51=>206 | 20=>20 | 213=>236 | 46=>169 | 232=>284 | 233=>285 | n=>n,fun | 17=>1 | 18=>2 | 19=>3 | n=>n⟩
theorem Tryz.laysM171:Go.Proofs.LaysM.n171 prog Tryz.laysM171_ren:={mixed:=by kernel_rfl,f129:=cqz func209 (by kernel_rfl),f171:=cqz func64 (by kernel_rfl),f243:=cqz func101 (by kernel_rfl),f246:=cqz func138 (by kernel_rfl),f283:=cqz func177 (by kernel_rfl),f284:=cqz func178 (by kernel_rfl),f285:=cqz func179 (by kernel_rfl),f286:=cqz func180 (by kernel_rfl),f317:=cqz func208 (by kernel_rfl),f318:=cqz func210 (by kernel_rfl),f319:=cqz func211 (by kernel_rfl),f320:=cqz func212 (by kernel_rfl),f337:=cqz func237 (by kernel_rfl),f338:=cqz func238 (by kernel_rfl),t0:=underlying0,a0:=isAgg0,z0:=sizeOf0,v0:=zeroValue0,t2:=underlying2,a2:=isAgg2,z2:=sizeOf2,v2:=zeroValue2,t3:=underlying3,a3:=isAgg3,z3:=sizeOf3,v3:=zeroValue3,t4:=underlying4,a4:=isAgg4,z4:=sizeOf4,v4:=zeroValue4,t5:=underlying5,a5:=isAgg5,z5:=sizeOf5,v5:=zeroValue5,t9:=underlying9,a9:=isAgg9,z9:=sizeOf9,v9:=zeroValue9,t20:=underlying20,a20:=isAgg20,z20:=sizeOf20,v20:=zeroValue20,t37:=underlying26,a37:=isAgg26,z37:=sizeOf26,v37:=zeroValue26,t46:=underlying169,a46:=isAgg169,z46:=sizeOf169,v46:=zeroValue169,t51:=underlying206,a51:=isAgg206,z51:=sizeOf206,v51:=zeroValue206,t53:=underlying201,a53:=isAgg201,z53:=sizeOf201,v53:=zeroValue201,t171:=underlying200,a171:=isAgg200,z171:=sizeOf200,v171:=zeroValue200,t173:=underlying204,a173:=isAgg204,z173:=sizeOf204,v173:=zeroValue204,t212:=underlying235,a212:=isAgg235,z212:=sizeOf235,v212:=zeroValue235,t213:=underlying236,a213:=isAgg236,z213:=sizeOf236,t232:=underlying284,a232:=isAgg284,z232:=sizeOf284,v232:=zeroValue284,t233:=underlying285,a233:=isAgg285,z233:=sizeOf285,v233:=zeroValue285,g17:=by kernel_rfl,g18:=by kernel_rfl,g19:=by kernel_rfl,i0:=by kernel_rfl,i2:=by kernel_rfl,i3:=by kernel_rfl,i4:=by kernel_rfl,i5:=by kernel_rfl,i9:=by kernel_rfl,i20:=by kernel_rfl,i37:=by kernel_rfl,i46:=by kernel_rfl,i51:=by kernel_rfl,i53:=by kernel_rfl,i171:=by kernel_rfl,i173:=by kernel_rfl,i212:=by kernel_rfl,i232:=by kernel_rfl,i233:=by kernel_rfl,m17:=by kernel_rfl,m18:=by kernel_rfl,m19:=by kernel_rfl}
open Go.RowKit Go.Sort Go.Lib in
theorem Tryz.strconv_Itoa (n : Int) (h0 : -9223372036854775808 <= n) (h1 : n <= 9223372036854775807) (w : World) (htab : Lib.TabIs prog w "internal/strconv.uint64pow10" .u64 Lib.pow10Tab) :
 Calls prog 64 #[.int .i64 n] w fun e w' =>e=.returned (.string ⟨(Lib.itoa n).toArray⟩)/\∃k os,w' =grow (w.drewN k) os:=Any.strconv_Itoa Tryz.laysM171 n h0 h1 w htab
def Tryz.laysC172_ren:Go.Shelf.Ren:=⟨fun | 172=>184 | 244=>213 | 245=>214 | 247=>239 | 279=>240 | 280=>241 | 281=>242 | 282=>243 | 287=>265 | 316=>266 | 171=>64 | 205=>267 | 321=>278 | 322=>279 | 243=>101 | 246=>138 | 283=>177 | 284=>178 | 285=>179 | 286=>180 | 129=>209 | 317=>208 | 318=>210 | 319=>211 | 320=>212 | 337=>237 | 338=>238 | n=>n,fun | 9=>9 | 3=>3 | 75=>210 | 76=>211 | 4=>4 | 5=>5 | 167=>253 | 37=>26 | 0=>0 | 85=>254 | 2=>2 | 168=>256 | 53=>201 | 175=>286 | 46=>169 | 210=>289 | 127=>301 | 145=>304 | 143=>302 | 21=>21 | 171=>200 | 173=>204 | 212=>235 | 51=>206 | 20=>20 | 213=>236 | 232=>284 | 233=>285 | 80=>299 | n=>n,fun | 15=>4 | 16=>5 | 17=>1 | 18=>2 | 19=>3 | n=>n⟩
theorem Tryz.laysC172:Go.Proofs.LaysC.n172 prog Tryz.laysC172_ren:={mixed:=by kernel_rfl,f129:=cqz func209 (by kernel_rfl),f171:=cqz func64 (by kernel_rfl),f172:=cqz func184 (by kernel_rfl),f205:=cqz func267 (by kernel_rfl),f243:=cqz func101 (by kernel_rfl),f244:=cqz func213 (by kernel_rfl),f245:=cqz func214 (by kernel_rfl),f246:=cqz func138 (by kernel_rfl),f247:=cqz func239 (by kernel_rfl),f279:=cqz func240 (by kernel_rfl),f280:=cqz func241 (by kernel_rfl),f281:=cqz func242 (by kernel_rfl),f282:=cqz func243 (by kernel_rfl),f283:=cqz func177 (by kernel_rfl),f284:=cqz func178 (by kernel_rfl),f285:=cqz func179 (by kernel_rfl),f286:=cqz func180 (by kernel_rfl),f287:=cqz func265 (by kernel_rfl),f316:=cqz func266 (by kernel_rfl),f317:=cqz func208 (by kernel_rfl),f318:=cqz func210 (by kernel_rfl),f319:=cqz func211 (by kernel_rfl),f320:=cqz func212 (by kernel_rfl),f321:=cqz func278 (by kernel_rfl),f322:=cqz func279 (by kernel_rfl),f337:=cqz func237 (by kernel_rfl),f338:=cqz func238 (by kernel_rfl),t0:=underlying0,a0:=isAgg0,z0:=sizeOf0,v0:=zeroValue0,t2:=underlying2,a2:=isAgg2,z2:=sizeOf2,v2:=zeroValue2,t3:=underlying3,a3:=isAgg3,z3:=sizeOf3,v3:=zeroValue3,t4:=underlying4,a4:=isAgg4,z4:=sizeOf4,v4:=zeroValue4,t5:=underlying5,a5:=isAgg5,z5:=sizeOf5,v5:=zeroValue5,t9:=underlying9,a9:=isAgg9,z9:=sizeOf9,v9:=zeroValue9,t20:=underlying20,a20:=isAgg20,z20:=sizeOf20,v20:=zeroValue20,t21:=underlying21,a21:=isAgg21,z21:=sizeOf21,v21:=zeroValue21,t37:=underlying26,a37:=isAgg26,z37:=sizeOf26,v37:=zeroValue26,t46:=underlying169,a46:=isAgg169,z46:=sizeOf169,v46:=zeroValue169,t51:=underlying206,a51:=isAgg206,z51:=sizeOf206,v51:=zeroValue206,t53:=underlying201,a53:=isAgg201,z53:=sizeOf201,v53:=zeroValue201,t75:=underlying210,a75:=isAgg210,z75:=sizeOf210,v75:=zeroValue210,t76:=underlying211,a76:=isAgg211,z76:=sizeOf211,v76:=zeroValue211,t85:=underlying254,a85:=isAgg254,z85:=sizeOf254,v85:=zeroValue254,t127:=underlying301,a127:=isAgg301,z127:=sizeOf301,v127:=zeroValue301,t143:=underlying302,a143:=isAgg302,z143:=sizeOf302,v143:=zeroValue302,t145:=underlying304,a145:=isAgg304,z145:=sizeOf304,v145:=zeroValue304,t167:=underlying253,a167:=isAgg253,z167:=sizeOf253,v167:=zeroValue253,t168:=underlying256,a168:=isAgg256,z168:=sizeOf256,v168:=zeroValue256,t171:=underlying200,a171:=isAgg200,z171:=sizeOf200,v171:=zeroValue200,t173:=underlying204,a173:=isAgg204,z173:=sizeOf204,v173:=zeroValue204,t175:=underlying286,a175:=isAgg286,z175:=sizeOf286,v175:=zeroValue286,t210:=underlying289,a210:=isAgg289,z210:=sizeOf289,v210:=zeroValue289,t212:=underlying235,a212:=isAgg235,z212:=sizeOf235,v212:=zeroValue235,t213:=underlying236,a213:=isAgg236,z213:=sizeOf236,t232:=underlying284,a232:=isAgg284,z232:=sizeOf284,v232:=zeroValue284,t233:=underlying285,a233:=isAgg285,z233:=sizeOf285,v233:=zeroValue285,g15:=by kernel_rfl,g16:=by kernel_rfl,g17:=by kernel_rfl,g18:=by kernel_rfl,g19:=by kernel_rfl,t80:=underlying299,a80:=isAgg299,z80:=sizeOf299,v80:=zeroValue299,i0:=by kernel_rfl,i2:=by kernel_rfl,i3:=by kernel_rfl,i4:=by kernel_rfl,i5:=by kernel_rfl,i9:=by kernel_rfl,i20:=by kernel_rfl,i21:=by kernel_rfl,i37:=by kernel_rfl,i46:=by kernel_rfl,i51:=by kernel_rfl,i53:=by kernel_rfl,i75:=by kernel_rfl,i76:=by kernel_rfl,i80:=by kernel_rfl,i85:=by kernel_rfl,i127:=by kernel_rfl,i143:=by kernel_rfl,i145:=by kernel_rfl,i167:=by kernel_rfl,i168:=by kernel_rfl,i171:=by kernel_rfl,i173:=by kernel_rfl,i175:=by kernel_rfl,i210:=by kernel_rfl,i212:=by kernel_rfl,i232:=by kernel_rfl,i233:=by kernel_rfl,m15:=by kernel_rfl,m16:=by kernel_rfl,m17:=by kernel_rfl,m18:=by kernel_rfl,m19:=by kernel_rfl,c0:=by kernel_rfl,c2:=by kernel_rfl,c3:=by kernel_rfl,c4:=by kernel_rfl,c5:=by kernel_rfl,c9:=by kernel_rfl,c20:=by kernel_rfl,c21:=by kernel_rfl,c37:=by kernel_rfl,c46:=by kernel_rfl,c51:=by kernel_rfl,c53:=by kernel_rfl,c75:=by kernel_rfl,c76:=by kernel_rfl,c80:=by kernel_rfl,c85:=by kernel_rfl,c127:=by kernel_rfl,c143:=by kernel_rfl,c145:=by kernel_rfl,c167:=by kernel_rfl,c168:=by kernel_rfl,c171:=by kernel_rfl,c173:=by kernel_rfl,c175:=by kernel_rfl,c210:=by kernel_rfl,c212:=by kernel_rfl,c213:=by kernel_rfl,c232:=by kernel_rfl,c233:=by kernel_rfl}
open Go.RowKit in
theorem Tryz.strconv_Atoi_err_var (s : ByteArray) (hl : s.size <= 18) (h : Lib.atoi s.data.toList = none) (tp : TypeId) (p : Value) (w : World) (hvar : w.var? prog "strconv.ErrSyntax" = some #[.iface tp p]) :
 Calls prog 184 #[.string s] w fun e w' =>∃N,e=.returned (.tuple #[.int .i64 0,.iface 256 (.pointer (some ⟨N,0,none⟩))])/\w.heap.size<=N/\w'.heap[N]? =some (.cells #[.string ⟨#[65,116,111,105]⟩,.string s,.iface tp p] 289 (0,0))/\Below w.heap.size w w' :=Any.strconv_Atoi_err_var Tryz.laysC172 s hl h tp p w hvar
def Tryz.lays144_ren:Go.Shelf.Ren:=⟨fun | 144=>224 | 143=>249 | 219=>245 | 217=>220 | 225=>207 | 224=>142 | 267=>268 | 266=>246 | 314=>280 | n=>n,fun | 9=>9 | 4=>4 | 3=>3 | 5=>5 | 46=>169 | 146=>207 | 51=>206 | n=>n,fun | 1=>0 | n=>n⟩
theorem Tryz.lays144:Go.Proofs.Lays.n144 prog Tryz.lays144_ren:=⟨by kernel_rfl,cqz func249 (by kernel_rfl),cqz func224 (by kernel_rfl),cqz func220 (by kernel_rfl),cqz func245 (by kernel_rfl),cqz func142 (by kernel_rfl),cqz func207 (by kernel_rfl),cqz func246 (by kernel_rfl),cqz func268 (by kernel_rfl),cqz func280 (by kernel_rfl),underlying3,isAgg3,sizeOf3,zeroValue3,underlying4,isAgg4,sizeOf4,zeroValue4,underlying5,isAgg5,sizeOf5,zeroValue5,underlying9,isAgg9,sizeOf9,zeroValue9,underlying169,isAgg169,sizeOf169,zeroValue169,underlying206,isAgg206,sizeOf206,zeroValue206,underlying207,isAgg207,sizeOf207,zeroValue207,by kernel_rfl⟩
open Go.RowKit Go.Lib in
theorem Tryz.strings_Contains(s sub:ByteArray)(m:Int)(w:World)(hs:s.size < 4294967281)(hm:w.cell? ⟨0,0,none⟩=some (.int .i64 m)):
 Calls prog 224 #[.string s,.string sub] w fun e w' =>e=.returned (.bool (Lib.contains s.data.toList sub.data.toList))/\w' =w:=Any.strings_Contains Tryz.lays144 s sub m w hs hm
def Tryz.lays145_ren:Go.Shelf.Ren:=⟨fun | 145=>189 | 220=>219 | 219=>245 | 217=>220 | 225=>207 | 224=>142 | 267=>268 | 266=>246 | 314=>280 | n=>n,fun | 9=>9 | 4=>4 | 59=>175 | 3=>3 | 5=>5 | 46=>169 | 146=>207 | 51=>206 | n=>n,fun | 1=>0 | n=>n⟩
theorem Tryz.lays145:Go.Proofs.Lays.n145 prog Tryz.lays145_ren:=⟨by kernel_rfl,cqz func189 (by kernel_rfl),cqz func220 (by kernel_rfl),cqz func245 (by kernel_rfl),cqz func219 (by kernel_rfl),cqz func142 (by kernel_rfl),cqz func207 (by kernel_rfl),cqz func246 (by kernel_rfl),cqz func268 (by kernel_rfl),cqz func280 (by kernel_rfl),underlying3,isAgg3,sizeOf3,zeroValue3,underlying4,isAgg4,sizeOf4,zeroValue4,underlying5,isAgg5,sizeOf5,zeroValue5,underlying9,isAgg9,sizeOf9,zeroValue9,underlying169,isAgg169,sizeOf169,zeroValue169,underlying206,isAgg206,sizeOf206,zeroValue206,underlying175,isAgg175,sizeOf175,zeroValue175,underlying207,isAgg207,sizeOf207,zeroValue207,by kernel_rfl⟩
open Go.RowKit Go.Lib in
theorem Tryz.strings_Cut(s sep:ByteArray)(m:Int)(w:World)(hs:s.size < 4294967281)(hm:w.cell? ⟨0,0,none⟩=some (.int .i64 m)):
 Calls prog 189 #[.string s,.string sep] w fun e w' =>e=.returned (.tuple #[.string ⟨(Lib.cut s.data.toList sep.data.toList).1.toArray⟩,.string ⟨(Lib.cut s.data.toList sep.data.toList).2.1.toArray⟩,.bool (Lib.cut s.data.toList sep.data.toList).2.2])/\∃n,w' =w.drewN n:=Any.strings_Cut Tryz.lays145 s sep m w hs hm
def Tryz.lays99_ren:Go.Shelf.Ren:=⟨fun | 99=>222 | 206=>247 | n=>n,fun | 9=>9 | 4=>4 | 3=>3 | n=>n,fun | n=>n⟩
theorem Tryz.lays99:Go.Proofs.Lays.n99 prog Tryz.lays99_ren:=⟨by kernel_rfl,cqz func222 (by kernel_rfl),cqz func247 (by kernel_rfl),underlying3,isAgg3,sizeOf3,zeroValue3,underlying4,isAgg4,sizeOf4,zeroValue4,underlying9,isAgg9,sizeOf9,zeroValue9⟩
open Go.RowKit Go.Lib in
theorem Tryz.strings_HasPrefix(s p:ByteArray)(w:World):
 Calls prog 222 #[.string s,.string p] w fun e w' =>e=.returned (.bool (Lib.hasPrefix s.data.toList p.data.toList))/\w' =w:=Any.strings_HasPrefix Tryz.lays99 s p w
def Tryz.lays100_ren:Go.Shelf.Ren:=⟨fun | 100=>223 | 207=>248 | n=>n,fun | 9=>9 | 4=>4 | 3=>3 | n=>n,fun | n=>n⟩
theorem Tryz.lays100:Go.Proofs.Lays.n100 prog Tryz.lays100_ren:=⟨by kernel_rfl,cqz func223 (by kernel_rfl),cqz func248 (by kernel_rfl),underlying3,isAgg3,sizeOf3,zeroValue3,underlying4,isAgg4,sizeOf4,zeroValue4,underlying9,isAgg9,sizeOf9,zeroValue9⟩
open Go.RowKit Go.Lib in
theorem Tryz.strings_HasSuffix(s p:ByteArray)(w:World)(hs:s.size<=9223372036854775807):
 Calls prog 223 #[.string s,.string p] w fun e w' =>e=.returned (.bool (Lib.hasSuffix s.data.toList p.data.toList))/\w' =w:=Any.strings_HasSuffix Tryz.lays100 s p w hs
def Tryz.lays226_ren:Go.Shelf.Ren:=⟨fun | 226=>174 | n=>n,fun | 3=>3 | 4=>4 | n=>n,fun | n=>n⟩
theorem Tryz.lays226:Go.Proofs.Lays.n226 prog Tryz.lays226_ren:=⟨by kernel_rfl,cqz func174 (by kernel_rfl),underlying3,isAgg3,sizeOf3,zeroValue3,underlying4,isAgg4,sizeOf4,zeroValue4⟩
open Go.RowKit Go.Lib in
theorem Tryz.strings_shouldUseASCIISet(n:Int)(w:World):
 Calls prog 174 #[.int .i64 n] w fun e w' =>e=.returned (.bool (decide (8 < n)))/\w' =w:=Any.strings_shouldUseASCIISet Tryz.lays226 n w
def Tryz.lays153_ren:Go.Shelf.Ren:=⟨fun | 153=>137 | 152=>173 | 226=>174 | 227=>175 | 228=>176 | 137=>191 | 119=>206 | 224=>142 | 225=>207 | 217=>220 | 266=>246 | n=>n,fun | 9=>9 | 3=>3 | 4=>4 | 5=>5 | 21=>21 | 117=>198 | 116=>197 | 0=>0 | 46=>169 | 124=>233 | n=>n,fun | n=>n⟩
theorem Tryz.lays153:Go.Proofs.Lays.n153 prog Tryz.lays153_ren:=⟨by kernel_rfl,cqz func206 (by kernel_rfl),cqz func191 (by kernel_rfl),cqz func173 (by kernel_rfl),cqz func137 (by kernel_rfl),cqz func220 (by kernel_rfl),cqz func142 (by kernel_rfl),cqz func207 (by kernel_rfl),cqz func174 (by kernel_rfl),cqz func175 (by kernel_rfl),cqz func176 (by kernel_rfl),cqz func246 (by kernel_rfl),underlying0,isAgg0,sizeOf0,zeroValue0,underlying3,isAgg3,sizeOf3,zeroValue3,underlying4,isAgg4,sizeOf4,zeroValue4,underlying5,isAgg5,sizeOf5,zeroValue5,underlying9,isAgg9,sizeOf9,zeroValue9,underlying21,isAgg21,sizeOf21,zeroValue21,underlying169,isAgg169,sizeOf169,zeroValue169,underlying197,isAgg197,sizeOf197,underlying198,isAgg198,sizeOf198,zeroValue198,underlying233,isAgg233,sizeOf233,zeroValue233⟩
open Go.RowKit Go.Lib in
theorem Tryz.strings_IndexAny_long(hv116:∀w,(zeroValue 197).run prog w=.ok (.agg (Array.replicate 256 (.bool false))) w)(s chars:ByteArray)(w:World)(h2:2<=chars.size)(h8:8 < s.size)(hs:s.size < 4294967281)(hcs:chars.size < 4294967281)(hascii:∀(j:Nat) b,chars.data.toList[j]? =some b->b.toNat < 128):
 Calls prog 137 #[.string s,.string chars] w fun e w' =>e=.returned (.int .i64 (Lib.indexAny s.data.toList chars.data.toList))/\w' =((w.alloc (.cells (Lib.setCells chars.data.toList) 197)).alloc (.cells (Lib.setCells chars.data.toList) 197)):=Any.strings_IndexAny_long Tryz.lays153 hv116 (by kernel_rfl) s chars w h2 h8 hs hcs hascii
open Go.RowKit Go.Lib in
theorem Tryz.strings_IndexAny(hv116:∀w,(zeroValue 197).run prog w=.ok (.agg (Array.replicate 256 (.bool false))) w)(s chars:ByteArray)(w:World)(hs:s.size < 4294967281)(hcs:chars.size < 4294967281)(has:∀(j:Nat) b,s.data.toList[j]? =some b->b.toNat < 128)(hac:∀(j:Nat) b,chars.data.toList[j]? =some b->b.toNat < 128):
 Calls prog 137 #[.string s,.string chars] w fun e w' =>e=.returned (.int .i64 (Lib.indexAny s.data.toList chars.data.toList))/\Below w.heap.size w w' :=Any.strings_IndexAny Tryz.lays153 hv116 (by kernel_rfl) s chars w hs hcs has hac
def Tryz.lays150_ren:Go.Shelf.Ren:=⟨fun | 150=>100 | 153=>137 | 152=>173 | 226=>174 | 227=>175 | 228=>176 | 137=>191 | 119=>206 | 224=>142 | 225=>207 | 217=>220 | 266=>246 | n=>n,fun | 9=>9 | 4=>4 | 3=>3 | 5=>5 | 21=>21 | 117=>198 | 116=>197 | 0=>0 | 46=>169 | 124=>233 | n=>n,fun | n=>n⟩
theorem Tryz.lays150:Go.Proofs.Lays.n150 prog Tryz.lays150_ren:=⟨by kernel_rfl,cqz func206 (by kernel_rfl),cqz func191 (by kernel_rfl),cqz func100 (by kernel_rfl),cqz func173 (by kernel_rfl),cqz func137 (by kernel_rfl),cqz func220 (by kernel_rfl),cqz func142 (by kernel_rfl),cqz func207 (by kernel_rfl),cqz func174 (by kernel_rfl),cqz func175 (by kernel_rfl),cqz func176 (by kernel_rfl),cqz func246 (by kernel_rfl),underlying0,isAgg0,sizeOf0,zeroValue0,underlying3,isAgg3,sizeOf3,zeroValue3,underlying4,isAgg4,sizeOf4,zeroValue4,underlying5,isAgg5,sizeOf5,zeroValue5,underlying9,isAgg9,sizeOf9,zeroValue9,underlying21,isAgg21,sizeOf21,zeroValue21,underlying169,isAgg169,sizeOf169,zeroValue169,underlying197,isAgg197,sizeOf197,underlying198,isAgg198,sizeOf198,zeroValue198,underlying233,isAgg233,sizeOf233,zeroValue233⟩
open Go.RowKit Go.Lib in
theorem Tryz.strings_ContainsAny(hv116:∀w,(zeroValue 197).run prog w=.ok (.agg (Array.replicate 256 (.bool false))) w)(s chars:ByteArray)(w:World)(hs:s.size < 4294967281)(hcs:chars.size < 4294967281)(has:∀(j:Nat) b,s.data.toList[j]? =some b->b.toNat < 128)(hac:∀(j:Nat) b,chars.data.toList[j]? =some b->b.toNat < 128):
 Calls prog 100 #[.string s,.string chars] w fun e w' =>e=.returned (.bool (Lib.containsAny s.data.toList chars.data.toList))/\Below w.heap.size w w' :=Any.strings_ContainsAny Tryz.lays150 hv116 (by kernel_rfl) s chars w hs hcs has hac
def Tryz.lays229_ren:Go.Shelf.Ren:=⟨fun | 229=>159 | n=>n,fun | 9=>9 | 40=>182 | 31=>56 | 152=>220 | 3=>3 | 0=>0 | 4=>4 | 21=>21 | 154=>222 | n=>n,fun | n=>n⟩
theorem Tryz.lays229:Go.Proofs.Lays.n229 prog Tryz.lays229_ren:=⟨by kernel_rfl,cqz func159 (by kernel_rfl),underlying0,isAgg0,sizeOf0,zeroValue0,underlying3,isAgg3,sizeOf3,zeroValue3,underlying4,isAgg4,sizeOf4,zeroValue4,underlying9,isAgg9,sizeOf9,zeroValue9,underlying21,isAgg21,sizeOf21,zeroValue21,underlying56,isAgg56,sizeOf56,zeroValue56,underlying182,isAgg182,sizeOf182,zeroValue182,underlying220,isAgg220,sizeOf220,zeroValue220,underlying222,isAgg222,sizeOf222,zeroValue222⟩
open Go.RowKit Go.Lib in
theorem Tryz.strings_FieldsFunc(g:Nat)(lb:Array Value)(eg:∀args w,(callFunc g args).run prog w=.ok (.enter g args) w)(p:Nat->Bool)(s:ByteArray)(w:World)(hs:s.size<=4294967296)(hp:PredAt prog g lb encR p w):
 Calls prog 159 #[.string s,.func (.func g) #[] lb] w fun e w' =>∃A,e=.returned (.slice (some ⟨A,0,none⟩) (Lib.goFieldsP p s).length (Lib.goFieldsP p s).length)/\w.heap.size<=A/\
  w'.ownsRow w.heap.size 9 1 (.slice (some ⟨A,0,none⟩) (Lib.goFieldsP p s).length (Lib.goFieldsP p s).length) (Lib.goFieldsP p s).length ((Lib.goFieldsP p s).map Value.string)/\Below w.heap.size w w' :=Any.strings_FieldsFunc Tryz.lays229 g lb eg p s w hs hp (by kernel_rfl) (by kernel_rfl)
def Tryz.lays185_ren:Go.Shelf.Ren:=⟨fun | 185=>105 | 187=>140 | 115=>139 | 253=>141 | 224=>142 | 254=>143 | 255=>181 | 291=>182 | n=>n,fun | 37=>26 | 3=>3 | 4=>4 | 0=>0 | 5=>5 | 46=>169 | 9=>9 | 146=>207 | 51=>206 | n=>n,fun | 1=>0 | n=>n⟩
theorem Tryz.lays185:Go.Proofs.Lays.n185 prog Tryz.lays185_ren:=⟨by kernel_rfl,cqz func139 (by kernel_rfl),cqz func105 (by kernel_rfl),cqz func140 (by kernel_rfl),cqz func142 (by kernel_rfl),cqz func141 (by kernel_rfl),cqz func143 (by kernel_rfl),cqz func181 (by kernel_rfl),cqz func182 (by kernel_rfl),underlying0,isAgg0,sizeOf0,zeroValue0,underlying3,isAgg3,sizeOf3,zeroValue3,underlying4,isAgg4,sizeOf4,zeroValue4,underlying5,isAgg5,sizeOf5,zeroValue5,underlying9,isAgg9,sizeOf9,zeroValue9,underlying26,isAgg26,sizeOf26,zeroValue26,underlying169,isAgg169,sizeOf169,zeroValue169,underlying206,isAgg206,sizeOf206,zeroValue206,underlying207,isAgg207,sizeOf207,zeroValue207,by kernel_rfl⟩
open Go.RowKit Go.Lib in
theorem Tryz.bytes_Index_longer(p q:Option Addr)(n c m d:Nat)(w:World)(h2:2<=m)(hnm:n < m)(hm:m<=9223372036854775807):
 Calls prog 105 #[.slice p n c,.slice q m d] w fun e w' =>e=.returned (.int .i64 (-1))/\w' =w:=Any.bytes_Index_longer Tryz.lays185 p q n c m d w h2 hnm hm
def Tryz.lays187_ren:Go.Shelf.Ren:=⟨fun | 187=>140 | 255=>181 | n=>n,fun | 37=>26 | 5=>5 | 3=>3 | n=>n,fun | n=>n⟩
theorem Tryz.lays187:Go.Proofs.Lays.n187 prog Tryz.lays187_ren:=⟨by kernel_rfl,cqz func140 (by kernel_rfl),cqz func181 (by kernel_rfl),underlying3,isAgg3,sizeOf3,zeroValue3,underlying5,isAgg5,sizeOf5,zeroValue5,underlying26,isAgg26,sizeOf26,zeroValue26⟩
open Go.RowKit Go.Lib in
theorem Tryz.bytes_IndexByte_at(a:Addr)(n c:Nat)(xs:List Int)(cv:Int)(w:World)(hx:xs.length=n)(hc:∀i,i < n->w.cell? (a.add i)=some (.int .u8 (xs.getD i 0))):
 Calls prog 140 #[.slice (some a) n c,.int .u8 cv] w fun e w' =>e=.returned (.int .i64 (Lib.indexByte (Lib.bytesOf xs) cv.toNat.toUInt8))/\w' =w:=Any.bytes_IndexByte_at Tryz.lays187 a n c xs cv w hx hc
def Tryz.lays115_ren:Go.Shelf.Ren:=⟨fun | 115=>139 | n=>n,fun | 37=>26 | 4=>4 | 9=>9 | 5=>5 | n=>n,fun | n=>n⟩
theorem Tryz.lays115:Go.Proofs.Lays.n115 prog Tryz.lays115_ren:=⟨by kernel_rfl,cqz func139 (by kernel_rfl),underlying4,isAgg4,sizeOf4,zeroValue4,underlying9,isAgg9,sizeOf9,zeroValue9,underlying26,isAgg26,sizeOf26,zeroValue26⟩
open Go.Proofs Go.RowKit Go.Lib in
theorem Tryz.bytes_Index_at(a1 a2:Addr)(n c1 k c2:Nat)(xs ys:List Int)(m:Int)(w:World)(hx:xs.length=n)(hy:ys.length=k)(hr1:∀x∈xs,0<=x/\x < 256)(hr2:∀y∈ys,0<=y/\y < 256)(hc1:∀i,i < n->w.cell? (a1.add i)=some (.int .u8 (xs.getD i 0)))(hc2:∀i,i < k->w.cell? (a2.add i)=some (.int .u8 (ys.getD i 0)))(hcap:n<=c1)(hs:n < 4294967281)(hk:k<=9223372036854775807)(hm:w.cell? ⟨0,0,none⟩=some (.int .i64 m)):
 Calls prog 105 #[.slice (some a1) n c1,.slice (some a2) k c2] w fun e w' =>e=.returned (.int .i64 (Lib.index (Lib.bytesOf xs) (Lib.bytesOf ys)))/\∃q,w' =w.drewN q:=Any.bytes_Index_at Tryz.lays185 a1 a2 n c1 k c2 xs ys m w hx hy hr1 hr2 hc1 hc2 hcap hs hk hm
def Tryz.laysnb116_ren:Go.Shelf.Ren:=⟨fun | 116=>218 | 115=>139 | n=>n,fun | 37=>26 | 4=>4 | 3=>3 | 9=>9 | 5=>5 | n=>n,fun | n=>n⟩
theorem Tryz.laysnb116:Go.Proofs.Lays.nb116 prog Tryz.laysnb116_ren:={mixed:=by kernel_rfl,f115:=cqz func139 (by kernel_rfl),f116:=cqz func218 (by kernel_rfl),t3:=underlying3,a3:=isAgg3,z3:=sizeOf3,v3:=zeroValue3,t4:=underlying4,a4:=isAgg4,z4:=sizeOf4,v4:=zeroValue4,t9:=underlying9,a9:=isAgg9,z9:=sizeOf9,v9:=zeroValue9,t37:=underlying26,a37:=isAgg26,z37:=sizeOf26,v37:=zeroValue26,t5:=underlying5,a5:=isAgg5,z5:=sizeOf5,v5:=zeroValue5}
def Tryz.laysnb117_ren:Go.Shelf.Ren:=⟨fun | 117=>104 | 115=>139 | n=>n,fun | 37=>26 | 4=>4 | 3=>3 | 9=>9 | 5=>5 | n=>n,fun | n=>n⟩
theorem Tryz.laysnb117:Go.Proofs.Lays.nb117 prog Tryz.laysnb117_ren:={mixed:=by kernel_rfl,f115:=cqz func139 (by kernel_rfl),f117:=cqz func104 (by kernel_rfl),t3:=underlying3,a3:=isAgg3,z3:=sizeOf3,v3:=zeroValue3,t4:=underlying4,a4:=isAgg4,z4:=sizeOf4,v4:=zeroValue4,t9:=underlying9,a9:=isAgg9,z9:=sizeOf9,v9:=zeroValue9,t37:=underlying26,a37:=isAgg26,z37:=sizeOf26,v37:=zeroValue26,t5:=underlying5,a5:=isAgg5,z5:=sizeOf5,v5:=zeroValue5}
def Tryz.laysnb140_ren:Go.Shelf.Ren:=⟨fun | 140=>250 | 117=>104 | 115=>139 | n=>n,fun | 37=>26 | 4=>4 | 3=>3 | 9=>9 | 5=>5 | n=>n,fun | n=>n⟩
theorem Tryz.laysnb140:Go.Proofs.Lays.nb140 prog Tryz.laysnb140_ren:={mixed:=by kernel_rfl,f115:=cqz func139 (by kernel_rfl),f117:=cqz func104 (by kernel_rfl),f140:=cqz func250 (by kernel_rfl),t3:=underlying3,a3:=isAgg3,z3:=sizeOf3,v3:=zeroValue3,t4:=underlying4,a4:=isAgg4,z4:=sizeOf4,v4:=zeroValue4,t9:=underlying9,a9:=isAgg9,z9:=sizeOf9,v9:=zeroValue9,t37:=underlying26,a37:=isAgg26,z37:=sizeOf26,v37:=zeroValue26,t5:=underlying5,a5:=isAgg5,z5:=sizeOf5,v5:=zeroValue5}
def Tryz.laysnb142_ren:Go.Shelf.Ren:=⟨fun | 142=>114 | 117=>104 | 115=>139 | n=>n,fun | 37=>26 | 4=>4 | 3=>3 | 9=>9 | 5=>5 | n=>n,fun | n=>n⟩
theorem Tryz.laysnb142:Go.Proofs.Lays.nb142 prog Tryz.laysnb142_ren:={mixed:=by kernel_rfl,f115:=cqz func139 (by kernel_rfl),f117:=cqz func104 (by kernel_rfl),f142:=cqz func114 (by kernel_rfl),t3:=underlying3,a3:=isAgg3,z3:=sizeOf3,v3:=zeroValue3,t4:=underlying4,a4:=isAgg4,z4:=sizeOf4,v4:=zeroValue4,t9:=underlying9,a9:=isAgg9,z9:=sizeOf9,v9:=zeroValue9,t37:=underlying26,a37:=isAgg26,z37:=sizeOf26,v37:=zeroValue26,t5:=underlying5,a5:=isAgg5,z5:=sizeOf5,v5:=zeroValue5}
theorem Tryz.bytes_Equal(v1 v2:Value)(xs ys:List Int)(w:World)(h1:(convert 26 9 v1).run prog w=.ok (.string (strOfNums xs)) w)(h2:(convert 26 9 v2).run prog w=.ok (.string (strOfNums ys)) w):
 Calls prog 139 #[v1,v2] w fun e w' =>e=.returned (.bool (Lib.bytesOf xs==Lib.bytesOf ys))/\w' =w:=Any.bytes_Equal Tryz.lays115 v1 v2 xs ys w h1 h2
theorem Tryz.bytes_HasPrefix(b1 o1 n c b2 o2 m d:Nat)(xs ys:List Int)(w:World)(hx:xs.length=n)(hy:ys.length=m)(hnc:n<=c)(hc1:∀i,i < n->w.cell? ⟨b1,o1+i,none⟩=some (.int .u8 (xs.getD i 0)))(hc2:∀i,i < m->w.cell? ⟨b2,o2+i,none⟩=some (.int .u8 (ys.getD i 0))):
 Calls prog 218 #[.slice (some ⟨b1,o1,none⟩) n c,.slice (some ⟨b2,o2,none⟩) m d] w fun e w' =>e=.returned (.bool (Lib.hasPrefix (Lib.bytesOf xs) (Lib.bytesOf ys)))/\w' =w:=Any.bytes_HasPrefix Tryz.laysnb116 b1 o1 n c b2 o2 m d xs ys w hx hy hnc hc1 hc2
theorem Tryz.bytes_HasSuffix(b1 o1 n c b2 o2 m d:Nat)(xs ys:List Int)(w:World)(hx:xs.length=n)(hy:ys.length=m)(hnc:n<=c)(hbig:n<=9223372036854775807)(hc1:∀i,i < n->w.cell? ⟨b1,o1+i,none⟩=some (.int .u8 (xs.getD i 0)))(hc2:∀i,i < m->w.cell? ⟨b2,o2+i,none⟩=some (.int .u8 (ys.getD i 0))):
 Calls prog 104 #[.slice (some ⟨b1,o1,none⟩) n c,.slice (some ⟨b2,o2,none⟩) m d] w fun e w' =>e=.returned (.bool (Lib.hasSuffix (Lib.bytesOf xs) (Lib.bytesOf ys)))/\w' =w:=Any.bytes_HasSuffix Tryz.laysnb117 b1 o1 n c b2 o2 m d xs ys w hx hy hnc hbig hc1 hc2
theorem Tryz.bytes_TrimSuffix(b1 o1 n c b2 o2 m d:Nat)(xs ys:List Int)(w:World)(hx:xs.length=n)(hy:ys.length=m)(hnc:n<=c)(hbig:n<=9223372036854775807)(hc1:∀i,i < n->w.cell? ⟨b1,o1+i,none⟩=some (.int .u8 (xs.getD i 0)))(hc2:∀i,i < m->w.cell? ⟨b2,o2+i,none⟩=some (.int .u8 (ys.getD i 0))):
 Calls prog 250 #[.slice (some ⟨b1,o1,none⟩) n c,.slice (some ⟨b2,o2,none⟩) m d] w fun e w' =>e=.returned (Lib.bytesTrimSuffix b1 o1 n c xs ys)/\w' =w:=Any.bytes_TrimSuffix Tryz.laysnb140 b1 o1 n c b2 o2 m d xs ys w hx hy hnc hbig hc1 hc2
theorem Tryz.bytes_CutSuffix(b1 o1 n c b2 o2 m d:Nat)(xs ys:List Int)(w:World)(hx:xs.length=n)(hy:ys.length=m)(hnc:n<=c)(hbig:n<=9223372036854775807)(hc1:∀i,i < n->w.cell? ⟨b1,o1+i,none⟩=some (.int .u8 (xs.getD i 0)))(hc2:∀i,i < m->w.cell? ⟨b2,o2+i,none⟩=some (.int .u8 (ys.getD i 0))):
 Calls prog 114 #[.slice (some ⟨b1,o1,none⟩) n c,.slice (some ⟨b2,o2,none⟩) m d] w fun e w' =>e=.returned (.tuple #[Lib.bytesTrimSuffix b1 o1 n c xs ys,.bool (Lib.hasSuffix (Lib.bytesOf xs) (Lib.bytesOf ys))])/\w' =w:=Any.bytes_CutSuffix Tryz.laysnb142 b1 o1 n c b2 o2 m d xs ys w hx hy hnc hbig hc1 hc2
theorem Tryz.bytes_IndexByte(b o n c:Nat)(xs:List Int)(cv:Int)(w:World)(hx:xs.length=n)(hc:∀i,i < n->w.cell? ⟨b,o+i,none⟩=some (.int .u8 (xs.getD i 0))):
 Calls prog 140 #[.slice (some ⟨b,o,none⟩) n c,.int .u8 cv] w fun e w' =>e=.returned (.int .i64 (Lib.indexByte (Lib.bytesOf xs) cv.toNat.toUInt8))/\w' =w:=Any.bytes_IndexByte Tryz.lays187 b o n c xs cv w hx hc
theorem Tryz.bytes_IndexByte_nil(cv:Int)(w:World):
 Calls prog 140 #[.slice none 0 0,.int .u8 cv] w fun e w' =>e=.returned (.int .i64 (-1))/\w' =w:=Any.bytes_IndexByte_nil Tryz.lays187 cv w
end Go.Proofs
namespace Go.Proofs.YtjjgjalfelnclaaGreatDoor
open Go.RowKit Go.Proofs.Tryz
theorem wnb(g:G)(q:Nat):Old (fun _=>False) g ⟨g.w.drewN q,g.u,g.loc⟩:=
 ⟨rfl,rfl,rfl,⟨jAn _,fun _ _=>jAn _,fun _ _ _ _=>rfl,fun _ h=>h⟩,fun _ _ _=>⟨rfl,rfl⟩⟩
theorem Vza{g:G}{s:Str}{v:Value}(h:Rel g (.s s) v):v=.string (strB s):=z9a h
theorem v7a(s:Str)(c:UInt8)(r:Int)(hr:z3a s c=some r):Run prog 191 [.s s,.u8 c] (.i r):=by
 unfold z3a at hr;cases hr;refine ⟨⟨_,_,⟨func191,rfl,by kernel_rfl⟩⟩,fun g vs hw hg ha=>?_⟩;obtain ⟨hsz,hrel⟩:=ha;obtain ⟨l⟩:=vs
 match l,hsz with
 | [x,y],_=>
  obtain rfl:=Vza (hrel 0 _ rfl);have e2:y=.int .u8 (c.toNat:Int):=z9a (hrel 1 _ rfl);subst e2;refine callsIn_wide.2 ((Tryz.strings_IndexByte (strB s) (c.toNat:Int) g.w).mono ?_);rintro e w' ⟨rfl,rfl⟩;refine ⟨g,_,rfl,rfl,Old.refl _ g,hw,rfl,?_⟩;simp[strB];exact .pv (.b rfl)
theorem j2a(a0:Int)(r:Bool)(hr:k1a a0=some r):Run prog 206 [.pv (.b (.int .i32 a0))] (.bo r):=by
 unfold k1a at hr;refine rfx (fn:=Tryz.f206) func206 fun g0 hg=>?_
 refine jq 7 hr [0] [] (fun j1=>[(3,.bo j1)]) (fun _=>[]) (fun j1 hr=>?_) (fun j1 hr=>?_)
 .refine bx 4 6 hr (fun c2 hr=>?_) fun c2 hr=>?_
  .exact jx 5 hr
  exact jx 5 hr
 refine ax 0 3 hr (fun hr=>?_) fun hr=>?_
 .exact kx 8 hr
 refine jq 0 hr [] [] (fun j4=>[(10,.bo j4)]) (fun _=>[]) (fun j4 hr=>?_) (fun j4 hr=>?_)
 .refine bx 4 13 hr (fun c5 hr=>?_) fun c5 hr=>?_
  .exact jx 5 hr
  exact jx 5 hr
 refine ax 0 10 hr (fun hr=>?_) fun hr=>?_
 .exact kx 8 hr
 exact kx 9 hr
theorem y9a(a0:Str)(a1:Int)(r:Int)(hr:kGa a0 a1=some r):Run prog 173 [.s a0,.pv (.b (.int .i32 a1))] (.i r):=by
 unfold kGa at hr;refine rfx (fn:=f173) func173 fun g0 hg=>?_
 refine rn tk 6 rfl<|jb hr (fun j1=>[(0,.s a0),(1,.pv (.b (.int .i32 a1))),(160,.bo j1)]) (fun j1=>[]) (fun j1 hr=>?_) (fun j1 hr=>?_)
 .refine bx 4 163 hr (fun c2 hr=>?_) fun c2 hr=>?_
  .exact jx 5 hr
  exact jx 5 hr
 refine ax 0 160 hr (fun hr=>?_) fun hr=>?_
 .refine clx 5 hr (v7a _ _) fun v4 _ hr=>?_
  exact kx 5 hr
 refine ax 7 171 hr (fun hr=>?_) fun hr=>?_
 .refine rn tk 4 rfl<|wr 1175 tk rfl rfl rfl rfl<|rn tk 3 rfl<|al2 hr (fun s7=>[(175,.ptr 1175 0)]) (fun s7=>[(1175,.it (strB a0) s7)]) (.exit 9) (fun b8=>[]) (fun b8=>[]) .ret (fun b9=>[(4,.i b9)]) (fun b9=>[]) rfl rfl (fun s7 x11 hr=>?_) (fun b8 hr=>?_) (fun b9 hr=>?_)
  .unfold q7a at hr;refine rn tk 2 rfl<|wnx hr rfl rfl rfl (fun c12 hr=>?_) (fun c12 hr=>?_)
   .refine ax 22 181 hr (fun hr=>?_) fun hr=>?_
    .exact ox 8 hr
    exact cx 2 hr
   exact ox 7 hr
  .exact kx 9 hr
  exact kx 3 hr
 refine clx 3 hr (j2a _) fun v14 _ hr=>?_
 refine ax 4 183 hr (fun hr=>?_) fun hr=>?_
 .exact kx 7 hr
 refine rn tk 29 rfl<|al2 hr (fun s17=>[(0,.s a0),(7,.s ((Zka a1))),(8,.i ((w64 ((((Zka a1)).length:Int) - 1)))),(9,.i s17)]) (fun s17=>[]) (.exit 1) (fun b18=>[]) (fun b18=>[]) .ret (fun b19=>[(4,.i b19)]) (fun b19=>[]) rfl rfl (fun s17 x21 hr=>?_) (fun b18 hr=>?_) (fun b19 hr=>?_)
 .unfold q9a at hr;refine ax 9 26 hr (fun hr=>?_) fun hr=>?_
  .refine rn tk 4 rfl<|jk (fun j23=>[(0,.s a0),(7,.s ((Zka a1))),(8,.i j23.1),(9,.i j23.2)]) (fun j23=>[]) (fun j23=>q8a a0 a1 j23=some x21) ?_ ?_
   .refine rn tk 1 rfl ?_;obtain ⟨v24,h25,hr⟩:=zaa hr;obtain ⟨v26,h27,hr⟩:=zaa hr;refine dq 0 6 [] [(2,.u8 v24),(5,.u8 v26)] .nil (.cons rfl rfl (kda (Vda rfl rfl zHa h25)) (.cons rfl rfl (kda (Vda rfl rfl zHa h27)) .nil)) ?_ mixed;refine ax 3 33 hr (fun hr=>?_) fun hr=>?_
    .refine rn tk 1 rfl ?_;obtain ⟨v29,h30,hr⟩:=zaa hr;obtain ⟨v31,h32,hr⟩:=zaa hr;refine dq 0 7 [] [(3,.s v29),(6,.u8 v31)] .nil (.cons rfl rfl (kda (kqb rfl rfl zHa h30)) (.cons rfl rfl (kda (Vda rfl rfl zHa h32)) .nil)) ?_ mixed;refine clx 0 hr (v7a _ _) fun v33 _ hr=>?_
     refine ax 10 43 hr (fun hr=>?_) fun hr=>?_
     .exact ox 10 hr
     refine rn tk 9 rfl<|jn (((w64 ((((Zka a1)).length:Int) - 1)),(w64 (s17+(w64 (v33+1)))))) hr rfl rfl
    refine rn tk 1 rfl<|jn (((w64 ((((Zka a1)).length:Int) - 1)),s17)) hr rfl rfl
   intro j23 hr;unfold q8a at hr;refine rn tk 7 rfl<|al1 hr (fun s36=>[(0,.s a0),(7,.s ((Zka a1))),(8,.i j23.1),(9,.i j23.2),(12,.i s36)]) (fun s36=>[]) (.exit 3) (fun b37=>[(8,.i j23.1),(9,.i j23.2)]) (fun b37=>[]) rfl rfl (fun s36 x38 hr=>?_) (fun b37 hr=>?_)
   .unfold jia at hr;refine ax 9 51 hr (fun hr=>?_) fun hr=>?_
    .refine rn tk 5 rfl ?_;obtain ⟨v40,h41,hr⟩:=zaa hr;obtain ⟨v42,h43,hr⟩:=zaa hr;refine dq 0 10 [] [(4,.u8 v40),(9,.u8 v42)] .nil (.cons rfl rfl (kda (Vda rfl rfl zHa h41)) (.cons rfl rfl (kda (Vda rfl rfl zHa h43)) .nil)) ?_ mixed;refine ax 3 64 hr (fun hr=>?_) fun hr=>?_
     .cases hr
     exact cx 8 hr
    exact ox 2 hr
   exact ox 15 hr
  exact ox 2 hr
 .exact kx 12 hr
 exact kx 4 hr
theorem jfa(a0:Int)(r:Bool)(hr:zSa a0=some r):Run prog 174 [.i a0] (.bo r):=by
 unfold zSa at hr;refine rfx (fn:=f174) func174 fun g0 hg=>?_
 exact kx 13 hr
theorem Qea(a0:Str)(a1:Str)(r:Int)(hr:wea a0 a1=some r):Run prog 137 [.s a0,.s a1] (.i r):=by
 unfold wea at hr;refine rfx (fn:=Tryz.f137) func137 fun g0 hg=>?_
 refine ax 12 12 hr (fun hr=>?_) fun hr=>?_
 .exact kx 7 hr
 refine ax 10 15 hr (fun hr=>?_) fun hr=>?_
 .refine rn tk 3 rfl ?_;obtain ⟨v3,h4,hr⟩:=zaa hr;refine ws tk h4 rfl rfl rfl rfl<|wur tk rfl rfl rfl<|rn tk 3 rfl<|jb hr (fun j5=>[(0,.s a0),(5,.pv (.b (.int .i32 j5)))]) (fun j5=>[]) (fun j5 hr=>?_) (fun j5 hr=>?_)
  .refine ax 6 20 hr (fun hr=>?_) fun hr=>?_
   .exact jx 3 hr
   exact jx 1 hr
  refine clx 4 hr (y9a _ _) fun v7 _ hr=>?_
  exact kx 5 hr
 refine clx 7 hr (jfa _) fun v9 _ hr=>?_
 refine ax 2 26 hr (fun hr=>?_) fun hr=>?_
 .refine rn tk 3 rfl ?_;cases hr
 refine rn tk 6 rfl<|wr 1045 tk rfl rfl rfl rfl<|rn tk 3 rfl<|al2 hr (fun s12=>[(1,.s a1),(45,.ptr 1045 0)]) (fun s12=>[(1045,.it (strB a0) s12)]) (.exit 2) (fun b13=>[]) (fun b13=>[]) .ret (fun b14=>[(4,.i b14)]) (fun b14=>[]) rfl rfl (fun s12 x16 hr=>?_) (fun b13 hr=>?_) (fun b14 hr=>?_)
 .unfold vaa at hr;refine rn tk 2 rfl<|wnx hr rfl rfl rfl (fun c17 hr=>?_) (fun c17 hr=>?_)
  .refine clx 20 hr (y9a _ _) fun v18 _ hr=>?_
   refine ax 3 53 hr (fun hr=>?_) fun hr=>?_
   .exact ox 8 hr
   exact cx 2 hr
  exact ox 7 hr
 .exact kx 8 hr
 exact kx 2 hr
theorem kgb(g:G)(vs:Array Value)(t:TypeId):Old (fun _=>False) g ⟨g.w.alloc (.cells vs t),fun k=>if k=g.w.heap.size then 0 else g.u k,g.loc⟩:=by
 have h:=ZAa g vs t 0 0 (g.loc 0);have e:(g.alloc vs t 0 0 (g.loc 0))=⟨g.w.alloc (.cells vs t),fun k=>if k=g.w.heap.size then 0 else g.u k,g.loc⟩:=by
  unfold G.alloc
  congr 1
  funext k;split
  .rename_i hk;rw[hk]
  rfl
 rw[<-e];exact h
theorem wob{g:G}(h:Wf g)(vs:Array Value)(t:TypeId):Wf ⟨g.w.alloc (.cells vs t),fun k=>if k=g.w.heap.size then 0 else g.u k,g.loc⟩:=by
 intro k hk;have hk:g.w.heap.size+1<=k:=by simpa using hk
 show (if k=g.w.heap.size then 0 else g.u k)=0;rw[if_neg (by omega)];exact h k (by omega)
theorem Keb{t:Str}(h:zJb t=true):∀(j:Nat) b,(strB t).data.toList[j]? =some b->b.toNat < 128:=fun j b hb=>zRb h (jAj hb)
theorem QWa(s t:Str)(r:Int)(hr:qPa s t=some r):Run prog 137 [.s s,.s t] (.i r):=by
 unfold qPa at hr;split at hr
 case isFalse=>cases hr
 rename_i hc;obtain ⟨h1,h2,h3,h4⟩:=hc;by_cases h8:s.length<=8
 .exact Qea s t r (by rw[vkb s t h8 h3 h2 h4];exact hr)
 cases hr;refine ⟨⟨_,_,⟨func137,rfl,by kernel_rfl⟩⟩,fun g vs hw hg ha=>?_⟩;obtain ⟨hsz,hrel⟩:=ha;obtain ⟨l⟩:=vs
 match l,hsz with
 | [x,y],_=>
  obtain rfl:=Vza (hrel 0 _ rfl);obtain rfl:=Vza (hrel 1 _ rfl);have h116:(prog.info? 197).map (fun i=>(i.zero,i.size))=some (some (.agg (Array.replicate 256 (.bool false))),256):=by kernel_rfl
  have hz:=(zero_of_info h116).1;refine callsIn_wide.2 ((Tryz.strings_IndexAny_long hz (strB s) (strB t) g.w (by rw[zQa];exact h3) (by rw[zQa];omega) (by rw[zQa];exact h1) (by rw[zQa];exact h2) (Keb h4)).mono ?_);rintro e w' ⟨rfl,rfl⟩;have o1:=kgb g (Lib.setCells t) 197;have w1:=wob hw (Lib.setCells t) 197;have o2:=kgb ⟨g.w.alloc (.cells (Lib.setCells t) 197),fun k=>if k=g.w.heap.size then 0 else g.u k,g.loc⟩ (Lib.setCells t) 197;have w2:=wob w1 (Lib.setCells t) 197;have o3:Old (fun _=>False) g _:=o1.trans (o2.mono (S' :=fun b=>False∨g.w.heap.size<=b) (by intro b _ hf;exact hf.elim));exact ⟨⟨_,_,_⟩,_,rfl,(by rfl),o3,w2,(by rfl),.pv (.b rfl)⟩
theorem qva(a0:Str)(a1:Str)(r:Bool)(hr:zMa a0 a1=some r):Run prog 100 [.s a0,.s a1] (.bo r):=by
 unfold zMa at hr;refine rfx (fn:=Tryz.f100) func100 fun g0 hg=>?_
 refine clx 9 hr (QWa _ _) fun v1 _ hr=>?_
 exact kx 5 hr
theorem qBb(a0:Str)(r:Bool)(hr:KRa a0=some r):Run prog 236 [.s a0] (.bo r):=by
 unfold KRa at hr;refine rfx (fn:=Tryz.f236) func236 fun g0 hg=>?_
 refine clx 8 hr (qva _ _) fun v1 _ hr=>?_
 exact kx 4 hr
theorem zsb(a0:Str)(r:Bool)(hr:ZGa a0=some r):Run prog 204 [.s a0] (.bo r):=by
 unfold ZGa at hr;refine rfx (fn:=f204) func204 fun g0 hg=>?_
 refine jq 5 hr [] [] (fun j1=>[(2,.bo j1)]) (fun _=>[]) (fun j1 hr=>?_) (fun j1 hr=>?_)
 .refine clx 2 hr (qBb _) fun v2 _ hr=>?_
  refine bx 2 6 hr (fun c4 hr=>?_) fun c4 hr=>?_
  .refine bx 3 9 hr (fun c5 hr=>?_) fun c5 hr=>?_
   .exact jx 17 hr
   refine rn tk 1 rfl ?_;obtain ⟨v6,h7,hr⟩:=zaa hr;refine ug rfl rfl rfl<|ws tk h7 rfl rfl rfl rfl ?_;obtain ⟨v8,h9,hr⟩:=zaa hr;refine ug rfl rfl rfl<|cl (v6a _ _ h9) rfl rfl ?_;refine bx 2 14 hr (fun c10 hr=>?_) fun c10 hr=>?_
   .refine rn tk 4 rfl ?_;obtain ⟨v11,h12,hr⟩:=zaa hr;refine ug rfl rfl rfl<|ws tk h12 rfl rfl rfl rfl ?_;obtain ⟨v13,h14,hr⟩:=zaa hr;refine ug rfl rfl rfl<|cl (v6a _ _ h14) rfl rfl ?_;exact jx 6 hr
   exact jx 12 hr
  exact jx 20 hr
 exact kx 1 hr
theorem Kha(a0:Str)(a1:Str)(r:(List Str) × zpa)(hr:jCa a0 a1=some r):Run prog 171 [.s a0,.s a1] (.tup [.l cS r.1,.agg [.i r.2.Code,.i r.2.Index]]):=by
 unfold jCa at hr;refine rfx (fn:=Tryz.f171) func171 fun g0 hg=>?_
 refine clx 11 hr (qAb _) fun v1 _ hr=>?_
 refine ax 4 12 hr (fun hr=>?_) fun hr=>?_
 .refine clx 2 hr (zea _ _) fun v4 _ hr=>?_
  exact kx 7 hr
 refine ax 8 17 hr (fun hr=>?_) fun hr=>?_
 .refine clx 2 hr (zea _ _) fun v7 _ hr=>?_
  exact kx 7 hr
 refine clx 3 hr (zsb _) fun v9 _ hr=>?_
 refine ax 4 22 hr (fun hr=>?_) fun hr=>?_
 .refine clx 2 hr (zea _ _) fun v12 _ hr=>?_
  exact kx 7 hr
 refine rn tk 6 rfl ?_;obtain ⟨v14,h15,hr⟩:=zaa hr;refine wc h15 rfl rfl rfl<|rn tk 1 rfl ?_;obtain ⟨v16,h17,hr⟩:=zaa hr;refine wc h17 rfl rfl rfl<|rn tk 10 rfl ?_;refine yAa 1008 (d:=8) 9 1 rfl rfl rfl (hO ?_);refine aq1 4 hr [5,8] [5] (fun s18=>[(6,.s s18.1),(7,.i s18.2.1)]) (fun s18=>[(1008,.row 9 false 1 (List.map cS s18.2.2))]) (.exit 1) [5,8] [5] (fun b19=>[(6,.s b19.1)]) (fun b19=>[(1008,.row 9 false 1 (List.map cS b19.2))]) (fun s18 x20 hr=>?_) (fun b19 hr=>?_)
 .unfold yRa at hr;refine ax 8 36 hr (fun hr=>?_) fun hr=>?_
  .refine clx 7 hr (zrb _ _) fun v22 _ hr=>?_
   refine ax 10 41 hr (fun hr=>?_) fun hr=>?_
   .exact ox 3 hr
   refine rn tk 7 rfl ?_;obtain ⟨v25,h26,hr⟩:=zaa hr;refine wscH tk h26 rfl rfl rfl rfl<|wz cS ([v25]:List Str) tk rfl rfl (fun _=>rfl) rfl rfl rfl ?_;obtain ⟨v27,h28,hr⟩:=zaa hr;refine wa tk h28 rfl rfl rfl rfl (fun _=>rfl) rfl rfl<|rn tk 6 rfl ?_;obtain ⟨v29,h30,hr⟩:=zaa hr;refine wscL tk h30 rfl rfl rfl rfl ?_;exact cx 4 hr
  exact ox 2 hr
 refine rn tk 6 rfl<|wz cS ([b19.1]:List Str) tk rfl rfl (fun _=>rfl) rfl rfl rfl ?_;obtain ⟨v31,h32,hr⟩:=zaa hr;refine wa tk h32 rfl rfl rfl rfl (fun _=>rfl) rfl rfl<|rn tk 7 rfl<|wnh tk rfl rfl rfl rfl<|rn tk 4 rfl ?_;refine qWa (d:=55) (F:=cS) (l:=v31) rfl rfl (hC ?_);refine aq2 0 hr [5,8,55,56] [1008,5] (fun s34=>[(57,.i s34)]) (fun _=>[]) (.exit 3) [5,8] [1008,5] (fun _=>[]) (fun _=>[]) .ret [5] [] (fun b36=>[(4,.l cS b36.1)]) (fun b36=>[(5,.cells [.i b36.2.Code,.i b36.2.Index])]) (fun s34 x38 hr=>?_) (fun b35 hr=>?_) (fun b36 hr=>?_)
 .unfold Zaa at hr;refine ax 6 58 hr (fun hr=>?_) fun hr=>?_
  .refine rn tk 7 rfl ?_;obtain ⟨v40,h41,hr⟩:=zaa hr;refine wi tk h41 rfl rfl rfl rfl rfl ?_;refine ax 12 64 hr (fun hr=>?_) fun hr=>?_
   .refine clx 3 hr (zea _ _) fun v43 _ hr=>?_
    exact ox 7 hr
   exact cx 7 hr
  exact ox 2 hr
 .refine clx 5 hr zya fun v45 _ hr=>?_
  refine rn tk 4 rfl ?_;refine qWa (d:=4) (F:=cS) (l:=v31) rfl rfl (hC ?_);exact kx 1 hr
 exact kx 2 hr
theorem VAa(a0:List zga)(r:zpa)(hr:v0a a0=some r):Run prog 134 [.l zga.pc a0] (.agg [.i r.Code,.i r.Index]):=by
 unfold v0a at hr;refine rfx (fn:=f134) func134 fun g0 hg=>?_
 refine rn tk 9 rfl<|wn tk rfl rfl rfl ?_;refine ax 3 9 hr (fun hr=>?_) fun hr=>?_
 .refine clx 2 hr (zea _ _) fun v2 _ hr=>?_
  exact kx 5 hr
 refine rn tk 6 rfl<|wn tk rfl rfl rfl ?_;refine aq2 4 hr [2,11,12] [2] (fun s4=>[(13,.i s4)]) (fun _=>[]) (.exit 0) [2] [2] (fun _=>[]) (fun _=>[]) .ret [2] [] (fun _=>[]) (fun b6=>[(2,.cells [.i b6.Code,.i b6.Index])]) (fun s4 x8 hr=>?_) (fun b5 hr=>?_) (fun b6 hr=>?_)
 .unfold vPa at hr;refine ax 6 14 hr (fun hr=>?_) fun hr=>?_
  .refine rn tk 7 rfl ?_;obtain ⟨v10,h11,hr⟩:=zaa hr;refine wi tk h11 rfl rfl rfl rfl rfl ?_;refine clx 12 hr (Kha _ _) fun v12 _ hr=>?_
   refine clx 11 hr (zxa _) fun v14 _ hr=>?_
   refine ax 2 27 hr (fun hr=>?_) fun hr=>?_
   .refine clx 5 hr (zea _ _) fun v17 _ hr=>?_
    exact ox 6 hr
   exact cx 7 hr
  exact ox 2 hr
 .refine clx 4 hr zya fun v19 _ hr=>?_
  exact kx 4 hr
 exact kx 2 hr
theorem ztb(a0:List UInt8)(r:Int)(hr:ZIa a0=some r):Run prog 172 [.l cU a0] (.i r):=by
 unfold ZIa at hr;refine rfx (fn:=Tryz.f172) func172 fun g0 hg=>?_
 refine aq2 17 hr [0] [] (fun s1=>[(3,.i s1.1),(4,.i s1.2)]) (fun _=>[]) (.exit 0) [] [] (fun _=>[]) (fun _=>[]) .ret [] [] (fun b3=>[(2,.i b3)]) (fun _=>[]) (fun s1 x5 hr=>?_) (fun b2 hr=>?_) (fun b3 hr=>?_)
 .unfold wga at hr;refine rn tk 5 rfl<|wn tk rfl rfl rfl ?_;refine ax 3 9 hr (fun hr=>?_) fun hr=>?_
  .refine jkq 2 [0] [] (fun j7=>[(3,.i j7.1),(4,.i j7.2)]) (fun _=>[]) (fun j7=>w9a j7=some x5) ?_ ?_
   .refine rn tk 5 rfl ?_;obtain ⟨v8,h9,hr⟩:=zaa hr;refine wi tk h9 rfl rfl rfl rfl rfl ?_;refine jq 5 hr [0,3,4,5] [] (fun j10=>[(32,.bo j10)]) (fun _=>[]) (fun j10 hr=>?_) (fun j10 hr=>?_)
    .refine bx 4 18 hr (fun c11 hr=>?_) fun c11 hr=>?_
     .refine rn tk 3 rfl<|ug rfl rfl rfl<|wn tk rfl rfl rfl ?_;refine bx 3 25 hr (fun c12 hr=>?_) fun c12 hr=>?_
      .refine rn tk 3 rfl ?_;obtain ⟨v13,h14,hr⟩:=zaa hr;refine ug rfl rfl rfl<|wi tk h14 rfl rfl rfl rfl rfl ?_;exact jx 4 hr
      exact jx 8 hr
     exact jx 15 hr
    refine ax 0 32 hr (fun hr=>?_) fun hr=>?_
    .refine rn tk 15 rfl<|jn ((0,(w64 (s1.2+1)))) hr rfl rfl
    refine jq 3 hr [0,3,4] [] (fun j16=>[(40,.bo j16)]) (fun _=>[]) (fun j16 hr=>?_) (fun j16 hr=>?_)
    .refine bx 4 37 hr (fun c17 hr=>?_) fun c17 hr=>?_
     .exact jx 4 hr
     exact jx 4 hr
    refine ax 0 40 hr (fun hr=>?_) fun hr=>?_
    .exact ox 9 hr
    refine ax 15 44 hr (fun hr=>?_) fun hr=>?_
    .exact ox 8 hr
    refine rn tk 2 rfl<|jn (((w64 (s1.1+1)),s1.2)) hr rfl rfl
   intro j7 hr;unfold w9a at hr;exact cx 5 hr
  exact ox 2 hr
 .exact kx 8 hr
 exact kx 2 hr
theorem Yya(a0:List UInt8)(r:zpa)(hr:ySa a0=some r):Run prog 136 [.l cU a0] (.agg [.i r.Code,.i r.Index]):=by
 unfold ySa at hr;refine rfx (fn:=f136) func136 fun g0 hg=>?_
 refine clx 9 hr (ztb _) fun v1 _ hr=>?_
 refine ax 9 5 hr (fun hr=>?_) fun hr=>?_
 .refine clx 2 hr (zea _ _) fun v4 _ hr=>?_
  exact kx 6 hr
 refine ax 6 8 hr (fun hr=>?_) fun hr=>?_
 .refine clx 2 hr (zea _ _) fun v7 _ hr=>?_
  exact kx 6 hr
 refine clx 5 hr zya fun v9 _ hr=>?_
 exact kx 4 hr
theorem ZYa(a0:zta)(r:List UInt8)(hr:wfa a0=some r):Run prog 135 [.agg [.l zga.pc a0.Fields,.l cU a0.Body]] (.l cU r):=by
 unfold wfa at hr;refine rfx (fn:=f135) func135 fun g0 hg=>?_
 refine rn tk 9 rfl ?_;refine yAa 1003 (d:=3) 5 1 rfl rfl rfl (hO ?_);refine rn tk 7 rfl<|wn tk rfl rfl rfl ?_;refine aq1 4 hr [1,3,11,12] [1] (fun s1=>[(13,.i s1.1)]) (fun s1=>[(1003,.row 5 false 1 (List.map cU s1.2))]) (.exit 0) [1,3] [1] (fun _=>[]) (fun b2=>[(1003,.row 5 false 1 (List.map cU b2))]) (fun s1 x3 hr=>?_) (fun b2 hr=>?_)
 .unfold vGa at hr;refine ax 6 14 hr (fun hr=>?_) fun hr=>?_
  .refine rn tk 6 rfl ?_;obtain ⟨v5,h6,hr⟩:=zaa hr;refine wi tk h6 rfl rfl rfl rfl rfl ?_;refine clx 11 hr (Kha _ _) fun v7 _ hr=>?_
   refine rn tk 11 rfl<|wn tk rfl rfl rfl ?_;refine aq1 4 hr [1,3,11,12,13,25,26] [1] (fun s9=>[(27,.i s9.1)]) (fun s9=>[(1003,.row 5 false 1 (List.map cU s9.2))]) (.exit 2) [1,3,11,12,13] [1] (fun _=>[]) (fun b10=>[(1003,.row 5 false 1 (List.map cU b10))]) (fun s9 x11 hr=>?_) (fun b10 hr=>?_)
   .unfold vFa at hr;refine ax 6 28 hr (fun hr=>?_) fun hr=>?_
    .refine rn tk 6 rfl ?_;obtain ⟨v13,h14,hr⟩:=zaa hr;refine wi tk h14 rfl rfl rfl rfl rfl<|rn tk 7 rfl ?_;obtain ⟨v15,h16,hr⟩:=zaa hr;refine wo (yOa (k:=33) (l:=s9.2) (s:=v13) (lim:=140737488355328) rfl rfl rfl rfl zja zHa.u zCa rfl h16) rfl<|wz cU ([(13:UInt8),(10:UInt8)]:List UInt8) tk rfl rfl (fun _=>rfl) rfl rfl rfl ?_;obtain ⟨v17,h18,hr⟩:=zaa hr;refine wa tk h18 rfl rfl rfl rfl (fun _=>rfl) rfl rfl ?_;exact cx 8 hr
    exact ox 2 hr
   exact cx 7 hr
  exact ox 2 hr
 refine rn tk 3 rfl ?_;obtain ⟨v19,h20,hr⟩:=zaa hr;obtain ⟨v21,h22,hr⟩:=zaa hr;refine mh 0 [(1,.l cU (([(13:UInt8),(10:UInt8)]:List UInt8)))] [(0,fun f s=>((38,.hs 1003 0)::f,s)),(2,fun f s=>((40,.hs 1003 0)::Fr.clrs [1003] f,(Sto.upd (Sto.clr 1003 s) 1003 (.row 5 false 1 (List.map cU v19))))),(5,fun f s=>((43,.hs 1003 0)::Fr.clrs [1003] f,(Sto.upd (Sto.clr 1003 s) 1003 (.row 5 false 1 (List.map cU v21))))),(6,fun f s=>((2,.hs 1003 0)::f,s))] [[],[0],[0,2],[0,2,5],[0,2,5,6]] ?_ mixed;refine .cons (mnq tk [0,1] (.cons (mdtq 1 (hv_g rfl rfl (mqz tk rfl))) (.cons (mpu (wna (F:=cU) (l:=([(13:UInt8),(10:UInt8)]:List UInt8)) zja zCa rfl (fun _=>rfl) rfl rfl)) .nil))) (.cons (mnq tk [1,2] (.cons (mpu (wna (F:=cU) (l:=([(13:UInt8),(10:UInt8)]:List UInt8)) zja zCa rfl (fun _=>rfl) rfl rfl)) (.cons (mdtq 2 (jAa (F:=cU) (l:=b2) (xs:=(([(13:UInt8),(10:UInt8)]:List UInt8))) (lim:=140737488355328) rfl rfl rfl rfl zja zCa rfl rfl (fun _=>rfl) rfl h20)) .nil))) (.cons (mnq tk [5] (.cons (mdtq 3 (jAa (F:=cU) (l:=v19) (xs:=a0.Body) (lim:=140737488355328) rfl rfl rfl rfl zja zCa rfl rfl (fun _=>rfl) rfl h22)) .nil)) (.cons (mnq tk [6] (.cons (mdtq 4 (hv_g rfl rfl (mqz tk rfl))) .nil)) (.cons (mfq tk [] [2] .nil (hA ?_)) .nil))));refine rn tk 1 rfl ?_;refine qWa (d:=2) (F:=cU) (l:=v21) rfl rfl (hC ?_);exact kx 1 hr
theorem wpa(a0:zta)(r:zpa)(hr:qma a0=some r):Run prog 98 [.agg [.l zga.pc a0.Fields,.l cU a0.Body]] (.agg [.i r.Code,.i r.Index]):=by
 unfold qma at hr;refine rfx (fn:=f98) func98 fun g0 hg=>?_
 refine clx 11 hr (VAa _) fun v1 _ hr=>?_
 refine clx 7 hr (zxa _) fun v3 _ hr=>?_
 refine ax 2 8 hr (fun hr=>?_) fun hr=>?_
 .exact kx 8 hr
 refine clx 6 hr (ZYa _) fun v6 _ hr=>?_
 refine wn tk rfl rfl rfl ?_;refine ax 3 13 hr (fun hr=>?_) fun hr=>?_
 .refine clx 2 hr (zea _ _) fun v9 _ hr=>?_
  exact kx 5 hr
 refine clx 6 hr (Yya _) fun v11 _ hr=>?_
 exact kx 4 hr
theorem W1a(a0:zta)(r:(List UInt8) × zpa)(hr:yfa a0=some r):Run prog 103 [.agg [.l zga.pc a0.Fields,.l cU a0.Body]] (.tup [.l cU r.1,.agg [.i r.2.Code,.i r.2.Index]]):=by
 unfold yfa at hr;refine rfx (fn:=Tryz.f103) func103 fun g0 hg=>?_
 refine clx 11 hr (wpa _) fun v1 _ hr=>?_
 refine clx 7 hr (zxa _) fun v3 _ hr=>?_
 refine ax 2 8 hr (fun hr=>?_) fun hr=>?_
 .refine mdq 1 [] [2,3] .nil ?_ mixed;exact kx 3 hr
 refine clx 5 hr (ZYa _) fun v6 _ hr=>?_
 refine clx 0 hr zya fun v8 _ hr=>?_
 exact kx 5 hr
theorem Zea(a0:zta)(r:(List UInt8) × Bool)(hr:vLa a0=some r):Run prog 66 [.agg [.l zga.pc a0.Fields,.l cU a0.Body]] (.tup [.l cU r.1,.bo r.2]):=by
 unfold vLa at hr;refine rfx (fn:=f66) func66 fun g0 hg=>?_
 refine clx 10 hr (W1a _) fun v1 _ hr=>?_
 refine rn tk 12 rfl ?_;refine vra rfl (jna (F:=cU) (l:=([(13:UInt8),(10:UInt8)]:List UInt8)) zja zCa rfl (fun _=>rfl) rfl rfl) zja zCa (kFa rfl) (kFa rfl) rfl (hO ?_);refine clx 0 hr (vBa _ _) fun v3 _ hr=>?_
 exact kx 6 hr
end Go.Proofs.YtjjgjalfelnclaaGreatDoor
