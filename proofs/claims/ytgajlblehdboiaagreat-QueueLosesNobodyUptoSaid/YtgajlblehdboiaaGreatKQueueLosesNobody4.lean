/- Part 4 of the proof of the law QueueLosesNobody: what it needs. -/
import Derived.Test.YtgajlblehdboiaaGreatKQueueLosesNobody3
import Derived.Laws.RangeAny
import Derived.Lib.ItoaMem
import Derived.Shelf.Small.Utf8
import Derived.Shelf.Small.Bits
import Derived.Shelf.Small.Strs
import Derived.Shelf.Small.Wraps
import Derived.Shelf.Strconv.Itoa0
import Derived.Shelf.Strings.Search1
import Derived.Shelf.Strings.Search2
import Derived.Shelf.Strings.Search3
import Derived.Shelf.Strings.Cut
import Derived.Shelf.LaysM
import Derived.Shelf.Strings.Shaped
import Derived.Shelf.Strings.Prefix
import Derived.Shelf.Strings.Runes
import Derived.Shelf.Strings.IndexAny
import Derived.Shelf.Strings.AsciiSet
import Derived.Shelf.Strings.IndexAnyAll
import Derived.Shelf.SlSortCmp.WholeK
import Derived.Shelf.SlSortCmp.NoneTotal
import Derived.Ground.SlsfProg
import Derived.Test.YtgajlblehdboiaaGreatProg
set_option linter.unusedVariables false
set_option linter.unusedSimpArgs false
set_option maxRecDepth 100000
set_option maxHeartbeats 40000000
namespace Go.Proofs.YtgajlblehdboiaaGreat
open Go.RowKit Go.Proofs.Tryz
def nameC(c:UInt8):Bool:=YEa c || c==45 || c==95 || c==46
def nameP(s:Str):Bool:=decide (1<=s.length) && decide (s.length<=60) && s.all nameC
theorem VFa(s:Str)(hs:s.length<=1048576):wVa s=some (nameP s):=by
 have hloop:iter (vna s) 0=some ((z7a (fun _ c=>if !nameC c then some () else none) 0 s).elim (.inl ()) .inr):=by
  refine kta s _ (Sum.inl ()) Sum.inr ?_ ?_
  .unfold vna;rw[zPa];rfl
  intro i c hc;have hi:=zIa hc;unfold vna;rw[kna hc,zza hc];simp only[cond_true,Option.bind_some,yUa,KOa c 45 (by decide),KOa c 95 (by decide),KOa c 46 (by decide),sc i (by omega)];unfold nameC;cases YEa c <;> cases (c==45) <;> cases (c==95) <;> cases (c==46) <;> rfl
 unfold wVa nameP;rw[hloop];simp only[Option.bind_some,jva,Zea,klb];by_cases hn:s=[]
 .subst hn;rfl
 have h1:(s !=([]:Str))=true:=by simpa using hn
 have h2:decide (1<=s.length)=true:=by have:=List.length_pos_iff.2 hn;simp;omega
 have e2:decide ((s.length:Int)<=60)=decide (s.length<=60):=by rw[Bool.eq_iff_iff];simp;omega
 rw[h1,h2,e2];cases decide (s.length<=60) <;> cases s.all nameC <;> rfl
def noteP(n:Int):Bool:=decide (0<=n) && decide (n<=7)
def recQ(l:List zca)(i:Nat)(r:zca):Option zra:=
 if !VBa r.Address then some ⟨10,i⟩ else if !noteP r.Notify then some ⟨3,i⟩ else if (l.take i).any (fun x=>x.Address==r.Address) then some ⟨7,i⟩ else none
def recF(l:List zca):zra:=(z7a (recQ l) 0 l).getD ⟨0,0⟩
def fromB(s:Str):Bool:=s !=([]:Str) && !VBa s
def envF(e:zya):zra:=if fromB e.From then ⟨10, -10⟩ else if decide (e.To.length < 1) || decide (60 < e.To.length) then ⟨2, -11⟩ else if e.Id !=([]:Str) && !nameP e.Id then ⟨10, -12⟩ else recF e.To
def smallR(l:List zca):Prop:=l.length<=1048576/\∀a∈l,a.Address.length<=1048576
def Jda(e:zya):Prop:=e.From.length<=1048576/\e.Id.length<=1048576/\smallR e.To
theorem Zfa(n:Int):qza n=some (noteP n):=by unfold qza noteP;cases decide (0<=n) <;> rfl
theorem any_take(l:List zca)(i:Nat)(s:Str)(hl:l.length<=1048576):decide ((0:Int)<=(z7a (fun i x=>if x.Address==s then some ((i:Nat):Int) else none) 0 (l.take i)).getD (-1))=(l.take i).any (fun x=>x.Address==s):=kkb (fun x=>x.Address==s) (l.take i) 0
theorem yza(l:List zca)(h:smallR l):kEa l=some (recF l):=by
 obtain ⟨h3,h4⟩:=h;unfold kEa recF;rw[kta l (recQ l) (.inl ()) .inr]
 .simp only[Option.bind_some,kra,QQa]
 .unfold kGa;rw[zPa];rfl
 intro i r hr;have hi:=zIa hr;have ha:=h4 r (List.mem_of_getElem? hr);have hl2:iter (kka r (l.take i)) 0=some ((z7a (fun i x=>if x.Address==r.Address then some ((i:Nat):Int) else none) 0 (l.take i)).elim (.inl ()) .inr):=by
  refine kta (l.take i) _ (Sum.inl ()) Sum.inr ?_ ?_
  .unfold kka;rw[zPa];rfl
  intro k x hx;have hk:=zIa hx;simp at hk;unfold kka;rw[kna hx,zza hx];simp only[cond_true,Option.bind_some,sc k (by omega)];cases x.Address==r.Address <;> rfl
 unfold kGa recQ;rw[kna hr,zza hr];simp only[cond_true,Option.bind_some,wya _ (show r.Address.length < 4294967281 by omega),zGa,Zfa,WAa (Nat.le_of_lt hi),hl2,Kia,any_take _ _ _ h3,sc i (by omega)];cases VBa r.Address <;> cases noteP r.Notify <;> cases (l.take i).any (fun x=>x.Address==r.Address) <;> rfl
theorem jja(e:zya)(h:Jda e):k9a e=some (envF e):=by
 obtain ⟨h1,h2,h3⟩:=h;unfold k9a envF;rw[wya _ (by omega),VFa _ h2,yza _ h3];have e1:decide ((e.To.length:Int) < 1)=decide (e.To.length < 1):=by generalize e.To.length=n;rw[Bool.eq_iff_iff];simp;omega
 have e2:decide ((60:Int) < (e.To.length:Int))=decide (60 < e.To.length):=by rw[Bool.eq_iff_iff];simp;omega
 simp only[Option.bind_some,zGa,e1,e2];unfold fromB;cases e.From !=([]:Str) <;> cases VBa e.From <;> cases decide (e.To.length < 1) <;> cases decide (60 < e.To.length) <;> cases e.Id !=([]:Str) <;> cases nameP e.Id <;> rfl
theorem kmb{e:zya}(h:zya.bk e<=1048576):Jda e:=by
 unfold zya.bk at h;dsimp only at h;refine ⟨by omega,by omega,?_,fun a ha=>?_⟩
 .have:=jMa (bk:=zca.bk) (fun x=>by unfold zca.bk;omega) e.To;omega
 have h5:=VEa (bk:=zca.bk) ha;have h6:zca.bk a=a.Address.length+1+1+1:=rfl;omega
theorem VGa(s:Str)(i:Nat)(h:i < s.length):(strB s)[i]'(by rw[z5a];exact h)=s[i]:=rfl
theorem knb(s:Str)(i:Nat)(h:i < s.length):(strB s).get! i=s[i]:=by
 have:=get_at (strB s) i (by rw[z5a];exact h);rw[Nat.add_zero]at this;rw[this];rfl
theorem QRa{s:Str}{i:Nat}{c:UInt8}(h:s[i]? =some c)(hc:c.toNat < 128):jqa s i=(c.toNat:Int)/\wUa s i=1:=by
 have hi:=zIa h;have e:s[i]=c:=by rw[List.getElem?_eq_getElem hi]at h;exact Option.some.inj h
 have hd:=decode_ascii (strB s) i (by rw[z5a];exact hi) (by rw[VGa s i hi,e];exact hc);unfold jqa wUa;rw[hd,VGa s i hi,e];exact ⟨rfl,rfl⟩
theorem kob{s:Str}{i:Nat}{c:UInt8}(h:s[i]? =some c)(hc:128<=c.toNat):128<=jqa s i/\jqa s i<=2147483647/\1<=wUa s i:=by
 have hi:=zIa h;have e:s[i]=c:=by rw[List.getElem?_eq_getElem hi]at h;exact Option.some.inj h
 have hd:=decode_high (strB s) i (by rw[z5a];exact hi) (by rw[VGa s i hi,e];exact hc);have hl:=decode_le (strB s) i;unfold jqa wUa;exact ⟨by omega,by omega,hd.2⟩
theorem YHa(s:ByteArray)(pos:Nat):∀k,1<=k->k < (Utf8.decode s pos).2->(s.get! (pos+k)).toNat / 64=2:=by
 intro k h1 h2;simp only[Utf8.decode]at h2;repeat' split at h2
 all_goals first
  | (exfalso;simp at h2;omega)
  | (
   rename_i hq _;simp only[Bool.and_eq_true,decide_eq_true_eq,beq_iff_eq]at hq;have h2:k < 2:=h2;obtain rfl:k=1:=by omega
   exact hq.2.2)
  | (
   rename_i hq _;simp only[Bool.and_eq_true,decide_eq_true_eq,beq_iff_eq]at hq;have h2:k < 3:=h2;have:k=1∨k=2:=by omega
   rcases this with rfl | rfl
   .exact hq.1.2.2
   exact hq.2.2)
  | (
   rename_i hq _;simp only[Bool.and_eq_true,decide_eq_true_eq,beq_iff_eq]at hq;have h2:k < 4:=h2;have:k=1∨k=2∨k=3:=by omega
   rcases this with rfl | rfl | rfl
   .exact hq.1.1.2.2
   .exact hq.1.2.2
   exact hq.2.2)
theorem kpb{s:Str}{i j:Nat}{c d:UInt8}(h:s[i]? =some c)(hc:128<=c.toNat)(h1:i<=j)(h2:j < i+wUa s i)(hj:s[j]? =some d):128<=d.toNat:=by
 by_cases e:j=i
 .subst e;rw[h]at hj;cases hj;exact hc
 have hjl:=zIa hj;have e2:s[j]=d:=by rw[List.getElem?_eq_getElem hjl]at hj;exact Option.some.inj hj
 have:=YHa (strB s) i (j - i) (by omega) (by unfold wUa at h2;omega);rw[show i+(j - i)=j by omega,knb s j hjl,e2]at this;omega
theorem toU8_nat(c:UInt8):toU8 (c.toNat:Int)=c:=by
 unfold toU8;have:=c.toNat_lt;rw[show ((c.toNat:Int) % 256).toNat=c.toNat by omega];simp
theorem QSa{t:Str}(h:QKa t=true){c:UInt8}(hc:c∈t):c.toNat < 128:=by
 unfold QKa at h;rw[List.all_eq_true]at h;simpa using h c hc
theorem J1a{r:Int}(h:128<=r):∃m x,1<=m/\m<=3/\(vOa r).length=m+1/\(vOa r)[m]? =some x/\128<=x.toNat:=by
 unfold vOa;simp only[Utf8.encode];have hc:128<=(if Utf8.valid r=true then r.toNat else Utf8.runeError):=by
  split
  .omega
  decide
 generalize (if Utf8.valid r=true then r.toNat else Utf8.runeError)=c at hc;have hb:∀n:Nat,128<=(UInt8.ofNat (128+n % 64)).toNat:=by
  intro n;rw[UInt8.toNat_ofNat'];have:(128+n % 64) % 2 ^ 8=128+n % 64:=Nat.mod_eq_of_lt (by omega);rw[this];omega
 rw[if_neg (by omega)];split
 .exact ⟨1,_,by omega,by omega,rfl,rfl,hb c⟩
 split
 .exact ⟨2,_,by omega,by omega,rfl,rfl,hb c⟩
 exact ⟨3,_,by omega,by omega,rfl,rfl,hb c⟩
theorem Qla{t:Str}(h:∀c∈t,c.toNat < 128){x:UInt8}(hx:128<=x.toNat):Lib.indexByte t x= -1:=by
 have hc:=Lib.contains_iff_indexByte t x;have hn:t.contains x=false:=by
  rw[Bool.eq_false_iff];intro hm;have:=h x (by simpa using hm);omega
 rw[hn]at hc;have hge:=Lib.indexByte_ge t x;have:=of_decide_eq_false hc.symm;omega
theorem KRa(t:Str)(c:UInt8)(hc:c.toNat < 128):z6a t (c.toNat:Int)=some (Lib.indexByte t c):=by
 unfold z6a;have h1:decide ((0:Int)<=(c.toNat:Int))=true:=by simp
 have h2:decide ((c.toNat:Int) < 128)=true:=by simp;omega
 rw[h1,h2];simp only[cond_true,Option.bind_some,toU8_nat];rfl
theorem Qma(t:Str)(r:Int)(hr:128<=r)(ht:∀c∈t,c.toNat < 128)(hl:t.length<=4294967281):z6a t r=some (-1):=by
 unfold z6a;have h1:decide ((0:Int)<=r)=true:=by simp;omega
 have h2:decide (r < 128)=false:=by simp;omega
 rw[h1,h2];simp only[cond_true,cond_false,Option.bind_some];cases hq:r==65533 with
 | true=>
  simp only[cond_true];obtain ⟨o,ho,rfl⟩:=VAa (body:=k0a t) (fun i=>i<=t.length) (fun i=>t.length - i) (fun _ o=>o=.inl ()) (fun i hi=>by
   unfold k0a;by_cases hlt:i < t.length
   .right;have hg:t[i]? =some t[i]:=List.getElem?_eq_getElem hlt;have hc:=ht t[i] (List.getElem_mem hlt);obtain ⟨e1,e2⟩:=QRa hg hc;rw[e1,e2,decide_eq_true hlt];have hne:((t[i].toNat:Int)==65533)=false:=by rw[beq_eq_false_iff_ne];omega
    rw[hne];exact ⟨i+1,rfl,by omega,by omega,fun _ h=>h⟩
   left;rw[decide_eq_false hlt];exact ⟨.inl (),rfl,rfl⟩) 0 (Nat.zero_le _)
  rw[ho];rfl
 | false=>
  simp only[cond_false];have hv:∃b,kja r=some b:=by
   unfold kja;cases decide (0<=r) <;> cases decide (r < 55296) <;> cases decide (57343 < r) <;> cases decide (r<=1114111) <;> exact ⟨_,rfl⟩
  obtain ⟨b,hb⟩:=hv;rw[hb];simp only[Option.bind_some];cases b with
  | false=>rfl
  | true=>
   simp only[Bool.not_true,cond_false];obtain ⟨m,x,hm1,hm3,hlen,hx,hx128⟩:=J1a hr;have hst:w64 (((vOa r).length:Int) - 1)=(m:Int):=by rw[hlen,wRa (by omega) (by omega)];omega
   rw[hst];have hbody:∃o,k2a t r (m:Int)=some (.out o)/\(o=.inl ()∨o=.inr (-1)):=by
    unfold k2a;by_cases hlt:m < t.length
    .have hd:decide ((m:Int) < (t.length:Int))=true:=by simp;omega
     have hc:=ht t[m] (List.getElem_mem hlt);rw[hd,hst,kib hlt,zza hx];have hne:((t[m].toNat:Int) !=(x.toNat:Int))=true:=by simp;omega
     simp only[cond_true,Option.bind_some,hne];rw[show (m:Int)+1=((m+1:Nat):Int) by omega,khb _ (by omega),Wza (by omega)];simp only[Option.bind_some];have hib:zNa (t.drop (m+1)) x=some (-1):=by
      show some (Lib.indexByte (t.drop (m+1)) x)=_;rw[Qla (fun c hc=>ht c (List.mem_of_mem_drop hc)) hx128]
     rw[hib];exact ⟨.inr (-1),rfl,.inr rfl⟩
    have hd:decide ((m:Int) < (t.length:Int))=false:=by simp;omega
    rw[hd];exact ⟨.inl (),rfl,.inl rfl⟩
   obtain ⟨o,ho,ho2⟩:=hbody;rw[zKa ho];rcases ho2 with rfl | rfl <;> rfl
theorem WCa(s t:Str)(h8:s.length<=8)(h2:2<=t.length)(hl:t.length < 4294967281)(ht:QKa t=true):qKa s t=some (Lib.indexAny s t):=by
 have htc:∀c∈t,c.toNat < 128:=fun c hc=>QSa ht hc
 unfold qKa;have e1:(t==([]:Str))=false:=by rw[beq_eq_false_iff_ne];rintro rfl;simp at h2
 have e2:((t.length:Int)==1)=false:=by rw[beq_eq_false_iff_ne];omega
 have e3:zFa (s.length:Int)=some false:=by unfold zFa;simp;omega
 rw[e1,e2,e3];simp only[cond_false,Option.bind_some];obtain ⟨o,ho,ho2⟩:=VAa (body:=k3a s t) (fun i=>Lib.NoAny s t i) (fun i=>s.length - i) (fun _ o=>Sum.elim (fun _=>some (-1)) (fun b=>some b) o=some (Lib.indexAny s t)) (fun i hi=>by
  unfold k3a;by_cases hlt:i < s.length
  .have hg:s[i]? =some s[i]:=List.getElem?_eq_getElem hlt;rw[decide_eq_true hlt];simp only[cond_true];by_cases hc:s[i].toNat < 128
   .obtain ⟨q1,q2⟩:=QRa hg hc;rw[q1,q2,KRa t _ hc];simp only[Option.bind_some];have hcon:=Lib.contains_iff_indexByte t s[i];rw[<-hcon];cases hin:t.contains s[i] with
    | true=>
     left;exact ⟨.inr (i:Int),rfl,by rw[Lib.indexAny_hit hi hg hin];rfl⟩
    | false=>
     right;exact ⟨i+1,rfl,hi.succ hg hin,by omega,fun _ h=>h⟩
   have hc:128<=s[i].toNat:=by omega
   obtain ⟨q1,q2,q3⟩:=kob hg hc;rw[Qma t _ q1 htc (by omega)];right;refine ⟨i+wUa s i,rfl,fun j b hj hb=>?_,by omega,fun _ h=>h⟩;by_cases hji:j < i
   .exact hi j b hji hb
   have:=kpb hg hc (by omega) hj hb;rw[Bool.eq_false_iff];intro hm;have:=htc b (by simpa using hm);omega
  left;rw[decide_eq_false hlt];refine ⟨.inl (),rfl,?_⟩;have hn:Lib.NoAny s t s.length:=fun j b hj hb=>hi j b (by omega) hb
  rw[Lib.indexAny_none hn];rfl) 0 (Lib.NoAny.zero s t)
 rw[ho];exact ho2
theorem WDa(t:Str):∀s:Str,decide (0<=Lib.indexAny s t)=s.any fun c=>t.contains c:=by
 intro s;induction s with
 | nil=>rfl
 | cons c s ih=>
  have hge:=Lib.indexAny_ge t s;rw[List.any_cons,<-ih,Lib.indexAny];cases t.contains c with
  | true=>simp
  | false=>
   simp only[Bool.false_eq_true,if_false,Bool.false_or];by_cases h:Lib.indexAny s t= -1
   .simp[h]
   have:(Lib.indexAny s t== -1)=false:=by simpa using h
   rw[this];simp only[Bool.false_eq_true,if_false];rw[Bool.eq_iff_iff];simp;omega
theorem yAa(s t:Str)(hs:s.length<=1048576)(h2:2<=t.length)(hl:t.length<=1048576)(ht:QKa t=true):z4a s t=some (s.any fun c=>t.contains c):=by
 unfold z4a kJa;rw[if_pos ⟨by omega,by omega,h2,ht⟩];simp only[Option.bind_some,WDa]
def yua(c:UInt8):Bool:=c==32 || c==9
theorem jwa(c:UInt8):qAa c=some (yua c):=by
 unfold qAa yua;rw[KOa c 32 (by decide),KOa c 9 (by decide)];cases c==32 <;> rfl
def fnC(c:UInt8):Bool:=decide (33<=c) && decide (c<=126) && c !=58
def fnP(s:Str):Bool:=s !=([]:Str) && decide (s.length<=60) && s.all fnC
theorem dec60(s:Str):decide ((s.length:Int)<=60)=decide (s.length<=60):=by generalize s.length=n;rw[Bool.eq_iff_iff];simp;omega
theorem WEa(s:Str)(hs:s.length<=1048576):yQa s=some (fnP s):=by
 have hloop:iter (vTa s) 0=some ((z7a (fun _ c=>if !fnC c then some () else none) 0 s).elim (.inl ()) .inr):=by
  refine kta s _ (Sum.inl ()) Sum.inr ?_ ?_
  .unfold vTa;rw[zPa];rfl
  intro i c hc;have hi:=zIa hc;unfold vTa;rw[kna hc,zza hc];simp only[cond_true,Option.bind_some,u8_ne c 58 (by decide),QNa 33 c (by decide),QOa 126 c (by decide),sc i (by omega)];unfold fnC;cases decide ((33:UInt8)<=c) <;> cases decide (c<=126) <;> cases c !=58 <;> rfl
 unfold yQa fnP;rw[hloop];simp only[Option.bind_some,jva,Zea,klb,dec60];cases s !=([]:Str) <;> cases decide (s.length<=60) <;> cases s.all fnC <;> rfl
def endC(c:UInt8):Bool:=c==13 || c==10 || c==0
theorem WFa(s:Str)(hs:s.length<=1048576):yRa s=some (s.any endC):=by
 unfold yRa;rw[yAa s _ hs (by decide) (by decide) (by decide)];simp only[Option.bind_some,Option.some.injEq]
 congr 1
 funext c;rw[Bool.eq_iff_iff];simp[endC,or_assoc]
def edgeP(s:Str):Bool:=match s.head?,s.getLast? with | some a,some b=>yua a || yua b | _,_=>false
def valP(s:Str):Bool:= !(s.any endC) && !(edgeP s)
theorem idx_last(s:Str)(h:s≠ [])(hs:s.length<=1048576):∃a b,idx s 0=some a/\idx s (w64 ((s.length:Int) - 1))=some b/\s.head? =some a/\s.getLast? =some b:=by
 have hpos:=List.length_pos_iff.2 h;obtain ⟨a,r,rfl⟩:=List.exists_cons_of_ne_nil h;have e:w64 (((a::r).length:Int) - 1)=((r.length:Nat):Int):=by
  have hl:(a::r).length=r.length+1:=rfl;rw[wRa (by omega) (by omega)];omega
 refine ⟨a,(a::r).getLast h,rfl,?_,rfl,List.getLast?_eq_some_getLast h⟩;rw[e,KPa,List.getLast_eq_getElem h,List.getElem?_eq_getElem (by simp)]
 congr 2
theorem VHa(s:Str)(hs:s.length<=1048576):wWa s=some (valP s):=by
 unfold wWa valP;rw[WFa s hs];simp only[Option.bind_some];by_cases hn:s=[]
 .subst hn;rfl
 obtain ⟨a,b,h1,h2,h3,h4⟩:=idx_last s hn hs;have e:(s==([]:Str))=false:=by simpa using hn
 unfold edgeP;rw[h1,h2,h3,h4,e];simp only[Option.bind_some,jwa,cond_false];cases s.any endC <;> cases yua a <;> cases yua b <;> rfl
def br(t:Str)(f i:Nat):Bool:=decide (1<=i) && decide (f<=i) && (match t[i]?,t[i - 1]? with | some a,some b=>yua a && !yua b | _,_=>false)
def VIa(t:Str)(f:Nat):Nat->Nat
 | 0=>0
 | i+1=>if br t f (i+1) then i+1 else VIa t f i
def YIa(t:Str)(f:Nat):Nat->Nat->Nat
 | 0,_=>0
 | n+1,i=>if br t f i then i else YIa t f n (i+1)
def cutP(t:Str)(f:Nat):Nat:=if VIa t f 78=0 then YIa t f (t.length - 79) 79 else VIa t f 78
def YJa(t:Str)(f c:Nat):Prop:=(c=0/\∀j,br t f j=false)∨(br t f c=true/\((c<=78/\∀j,c < j->j<=78->br t f j=false)∨(78 < c/\∀j,j < c->br t f j=false)))
theorem kqb(t:Str)(f:Nat):br t f 0=false:=rfl
theorem YKa{t:Str}{f i:Nat}(h:br t f i=true):i < t.length/\1<=i/\f<=i:=by
 unfold br at h;simp only[Bool.and_eq_true,decide_eq_true_eq]at h;obtain ⟨⟨h1,h2⟩,h3⟩:=h;refine ⟨?_,h1,h2⟩;cases hi:t[i]? with
 | none=>rw[hi]at h3;simp at h3
 | some a=>exact zIa hi
theorem WGa{t:Str}{f c d:Nat}(h:YJa t f c)(k:YJa t f d):c=d:=by
 rcases h with ⟨rfl,h⟩ | ⟨hc,h⟩ <;> rcases k with ⟨rfl,k⟩ | ⟨hd,k⟩
 .rfl
 .rw[h]at hd;cases hd
 .rw[k]at hc;cases hc
 rcases Nat.lt_trichotomy c d with hlt | heq | hgt
 .exfalso;rcases h with ⟨h1,h2⟩ | ⟨h1,h2⟩ <;> rcases k with ⟨k1,k2⟩ | ⟨k1,k2⟩
  .rw[h2 d hlt k1]at hd;cases hd
  .rw[k2 c hlt]at hc;cases hc
  .omega
  rw[k2 c hlt]at hc;cases hc
 .exact heq
 exfalso;rcases h with ⟨h1,h2⟩ | ⟨h1,h2⟩ <;> rcases k with ⟨k1,k2⟩ | ⟨k1,k2⟩
 .rw[k2 c hgt h1]at hc;cases hc
 .omega
 .rw[h2 d hgt]at hd;cases hd
 rw[h2 d hgt]at hd;cases hd
theorem J2a(t:Str)(f:Nat):∀n,(VIa t f n=0/\∀j,j<=n->br t f j=false)∨(br t f (VIa t f n)=true/\VIa t f n<=n/\∀j,VIa t f n < j->j<=n->br t f j=false):=by
 intro n;induction n with
 | zero=>left;exact ⟨rfl,fun j hj=>by
  obtain rfl:j=0:=by omega
  exact kqb t f⟩
 | succ n ih=>
  unfold VIa;by_cases h:br t f (n+1)=true
  .rw[if_pos h];right;exact ⟨h,Nat.le_refl _,fun j h1 h2=>by omega⟩
  rw[if_neg h];rcases ih with ⟨h1,h2⟩ | ⟨h1,h2,h3⟩
  .left;refine ⟨h1,fun j hj=>?_⟩;by_cases e:j=n+1
   .subst e;simpa using h
   exact h2 j (by omega)
  right;refine ⟨h1,by omega,fun j hj hjn=>?_⟩;by_cases e:j=n+1
  .subst e;simpa using h
  exact h3 j hj (by omega)
theorem J3a(t:Str)(f:Nat):∀n i,(YIa t f n i=0/\∀j,i<=j->j < i+n->br t f j=false)∨(br t f (YIa t f n i)=true/\i<=YIa t f n i/\∀j,i<=j->j < YIa t f n i->br t f j=false):=by
 intro n;induction n with
 | zero=>intro i;left;exact ⟨rfl,fun j h1 h2=>by omega⟩
 | succ n ih=>
  intro i;unfold YIa;by_cases h:br t f i=true
  .rw[if_pos h];right;exact ⟨h,Nat.le_refl _,fun j h1 h2=>by omega⟩
  rw[if_neg h];have hb:br t f i=false:=by simpa using h
  rcases ih (i+1) with ⟨h1,h2⟩ | ⟨h1,h2,h3⟩
  .left;refine ⟨h1,fun j hj hjn=>?_⟩;by_cases e:j=i
   .subst e;exact hb
   exact h2 j (by omega) (by omega)
  right;refine ⟨h1,by omega,fun j hj hjn=>?_⟩;by_cases e:j=i
  .subst e;exact hb
  exact h3 j (by omega) hjn
theorem krb(t:Str)(f:Nat):YJa t f (cutP t f):=by
 unfold cutP;rcases J2a t f 78 with ⟨h1,h2⟩ | ⟨h1,h2,h3⟩
 .rw[if_pos h1];rcases J3a t f (t.length - 79) 79 with ⟨k1,k2⟩ | ⟨k1,k2,k3⟩
  .left;refine ⟨k1,fun j=>?_⟩;by_cases hj:j<=78
   .exact h2 j hj
   cases hb:br t f j with
   | false=>rfl
   | true=>have:=(YKa hb).1;rw[k2 j (by omega) (by omega)]at hb;cases hb
  right;refine ⟨k1,.inr ⟨by omega,fun j hj=>?_⟩⟩;by_cases hj2:j<=78
  .exact h2 j hj2
  exact k3 j (by omega) hj
 have hne:VIa t f 78≠0:=by intro h;rw[h,kqb]at h1;cases h1
 rw[if_neg hne];exact .inr ⟨h1,.inl ⟨h2,h3⟩⟩
theorem Zga{t:Str}{f:Nat}(h:cutP t f≠0):1<=cutP t f/\cutP t f < t.length:=by
 rcases krb t f with ⟨h1,_⟩ | ⟨h1,_⟩
 .exact absurd h1 h
 exact ⟨(YKa h1).2.1,(YKa h1).1⟩
theorem br_at{t:Str}{f i:Nat}(h1:1<=i)(hi:i < t.length):br t f i=(decide (f<=i) && (yua t[i] && !yua (t[i - 1]'(by omega)))):=by
 unfold br;rw[List.getElem?_eq_getElem hi,List.getElem?_eq_getElem (show i - 1 < t.length by omega)];simp[h1]
def PInv(t:Str)(f b i:Nat):Prop:=f<=i/\1<=i/\((b=0/\∀j,j < i->br t f j=false)∨(br t f b=true/\b < i/\((b<=78/\∀j,b < j->j < i->br t f j=false)∨(78 < b/\∀j,j < b->br t f j=false))))
theorem PInv.done{t:Str}{f b i:Nat}(h:PInv t f b i)(hi:0 < b/\78 < i∨t.length<=i):YJa t f b:=by
 obtain ⟨hf,h1,h2⟩:=h;rcases h2 with ⟨rfl,h3⟩ | ⟨h3,h4,h5⟩
 .left;refine ⟨rfl,fun j=>?_⟩;cases hb:br t f j with
  | false=>rfl
  | true=>
   have:=(YKa hb).1;rw[h3 j (by omega)]at hb;cases hb
 right;refine ⟨h3,?_⟩;rcases h5 with ⟨h6,h7⟩ | h6
 .left;refine ⟨h6,fun j hj hj2=>?_⟩;cases hb:br t f j with
  | false=>rfl
  | true=>
   have:=(YKa hb).1;rw[h7 j hj (by omega)]at hb;cases hb
 exact .inr h6
theorem VJa(t:Str)(f:Nat)(ht:t.length<=4194304)(hf:f<=4194304):wXa t (f:Int)=some ((cutP t (max f 1):Nat):Int):=by
 unfold wXa;have hstart:max (f:Int) 1=((max f 1:Nat):Int):=by omega
 rw[hstart];obtain ⟨r,h1,b,rfl,h2⟩:=VAa (body:=wca t) (fun s=>∃b i:Nat,s=((b:Int),(i:Int))/\PInv t (max f 1) b i/\i<=4194305) (fun s=>(4194306 - s.2).toNat) (fun _ r=>∃c:Nat,r=(c:Int)/\YJa t (max f 1) c) (by
  rintro _ ⟨b,i,rfl,hI,hil⟩;have hi1:=hI.2.1;unfold wca;dsimp only;by_cases hlt:i < t.length
  .have hd:decide ((i:Int) < (t.length:Int))=true:=by simp;omega
   have hpre:w64 ((i:Int) - 1)=((i - 1:Nat):Int):=by rw[wRa (by omega) (by omega)];omega
   rw[hd,kib hlt,hpre,kib (show i - 1 < t.length by omega)];have hb:=br_at (f:=max f 1) hi1 hlt;have hfi:decide (max f 1<=i)=true:=by simp only[decide_eq_true_eq];exact hI.1
   rw[hfi,Bool.true_and]at hb;simp only[cond_true,Option.bind_some,jwa];have next:∀b' :Nat,PInv t (max f 1) b' (i+1)->qfa ((b:Int),(i:Int)) (b' :Int)=some (.cont ((b' :Int),((i+1:Nat):Int))):=by
    intro b' _;unfold qfa;dsimp only;rw[sc i (by omega)]
   have hno:br t (max f 1) i=false->PInv t (max f 1) b (i+1):=by
    intro hnb;refine ⟨by have:=hI.1;omega,by omega,?_⟩;rcases hI.2.2 with ⟨q1,q2⟩ | ⟨q1,q2,q3⟩
    .left;refine ⟨q1,fun j hj=>?_⟩;by_cases e:j=i
     .subst e;exact hnb
     exact q2 j (by omega)
    right;refine ⟨q1,by omega,?_⟩;rcases q3 with ⟨q4,q5⟩ | q4
    .left;refine ⟨q4,fun j hj hj2=>?_⟩;by_cases e:j=i
     .subst e;exact hnb
     exact q5 j hj (by omega)
    exact .inr q4
   have goNo:br t (max f 1) i=false->(∃s',qfa ((b:Int),(i:Int)) (b:Int)=some (.cont s')/\(∃b i:Nat,s' =((b:Int),(i:Int))/\PInv t (max f 1) b i/\i<=4194305)/\(4194306 - s'.2).toNat < (4194306 - ((i:Int))).toNat/\∀r:Int,(∃c:Nat,r=(c:Int)/\YJa t (max f 1) c)->∃c:Nat,r=(c:Int)/\YJa t (max f 1) c):=by
    intro hnb;exact ⟨_,next b (hno hnb),⟨b,i+1,rfl,hno hnb,by omega⟩,by dsimp only;omega,fun _ h=>h⟩
   cases ha:yua t[i] with
   | false=>
    rw[ha]at hb;simp only[Bool.not_false,cond_true,Option.bind_some];exact .inr (goNo hb)
   | true=>
    rw[ha]at hb;simp only[Bool.not_true,cond_false,Option.bind_some];cases hp:yua t[i - 1] with
    | true=>
     rw[hp]at hb;simp only[cond_true];exact .inr (goNo hb)
    | false=>
     rw[hp]at hb;have hb:br t (max f 1) i=true:=hb;simp only[cond_false];by_cases hb0:0 < b/\78 < i
     .left;have e1:decide ((0:Int) < (b:Int))=true:=by simp;omega
      have e2:decide ((78:Int) < (i:Int))=true:=by simp;omega
      rw[e1,e2];exact ⟨(b:Int),rfl,b,rfl,hI.done (.inl hb0)⟩
     right;have e:(bif decide ((0:Int) < (b:Int)) then some (decide ((78:Int) < (i:Int))) else some false)=some false:=by
      by_cases h0:0 < b
      .have e1:decide ((0:Int) < (b:Int))=true:=by simp;omega
       have e2:decide ((78:Int) < (i:Int))=false:=by simp;omega
       rw[e1,e2];rfl
      have e1:decide ((0:Int) < (b:Int))=false:=by simp;omega
      rw[e1];rfl
     rw[e];simp only[Option.bind_some,cond_false];have hnew:PInv t (max f 1) i (i+1):=by
      refine ⟨by have:=hI.1;omega,by omega,.inr ⟨hb,by omega,?_⟩⟩;by_cases h78:i<=78
      .exact .inl ⟨h78,fun j h1 h2=>by omega⟩
      right;refine ⟨by omega,?_⟩;rcases hI.2.2 with ⟨q1,q2⟩ | ⟨q1,q2,q3⟩
      .exact q2
      exfalso;have:=(YKa q1).2.1;omega
     exact ⟨_,next i hnew,⟨i,i+1,rfl,hnew,by omega⟩,by dsimp only;omega,fun _ h=>h⟩
  left;have hd:decide ((i:Int) < (t.length:Int))=false:=by simp;omega
  rw[hd];exact ⟨(b:Int),rfl,b,rfl,hI.done (.inr (by omega))⟩) ((0:Int),((max f 1:Nat):Int)) ⟨0,max f 1,rfl,⟨Nat.le_refl _,by omega,.inl ⟨rfl,fun j hj=>by
  cases hb:br t (max f 1) j with
  | false=>rfl
  | true=>have:=(YKa hb).2.2;omega⟩⟩,by omega⟩
 rw[h1];simp only[Option.bind_some];rw[WGa h2 (krb t (max f 1))]
def Zha:Nat->Str->Nat->List Str
 | 0,t,_=>[t]
 | n+1,t,f=>if 78 < t.length then (if cutP t f=0 then [t] else t.take (cutP t f)::Zha n (t.drop (cutP t f)) 1) else [t]
theorem VKa:∀(n m:Nat) (t:Str) (f:Nat),t.length<=n->t.length<=m->Zha n t f=Zha m t f:=by
 intro n;induction n with
 | zero=>
  intro m t f h1 h2;cases m with
  | zero=>rfl
  | succ m=>unfold Zha;rw[if_neg (by omega)]
 | succ n ih=>
  intro m t f h1 h2;cases m with
  | zero=>unfold Zha;rw[if_neg (by omega)]
  | succ m=>
   unfold Zha;split
   .split
    .rfl
    rename_i hc;have:=Zga hc;rw[ih m _ 1 (by simp;omega) (by simp;omega)]
   rfl
def wPa(t:Str)(f:Nat):List Str:=Zha t.length t f
theorem ZVa{t:Str}{f:Nat}(h:78 < t.length)(hc:cutP t f≠0):wPa t f=t.take (cutP t f)::wPa (t.drop (cutP t f)) 1:=by
 unfold wPa;obtain ⟨n,hn⟩:∃n,t.length=n+1:=⟨t.length - 1,by omega⟩;have hp:=Zga hc;rw[hn,Zha,if_pos h,if_neg hc];rw[VKa n (t.drop (cutP t f)).length _ 1 (by simp;omega) (Nat.le_refl _)]
theorem vFa{t:Str}{f:Nat}(h:¬78 < t.length∨cutP t f=0):wPa t f=[t]:=by
 unfold wPa;cases hn:t.length with
 | zero=>rfl
 | succ n=>
  rw[Zha];rcases h with h | h
  .rw[if_neg h]
  split
  .rfl
  rfl
theorem WHa:∀(n:Nat) (t:Str) (f:Nat),t.length<=n->(wPa t f).flatten=t/\(wPa t f).length<=t.length+1:=by
 intro n;induction n with
 | zero=>intro t f h;rw[vFa (.inl (by omega))];simp
 | succ n ih=>
  intro t f h;by_cases h78:78 < t.length
  .by_cases hc:cutP t f=0
   .rw[vFa (.inr hc)];simp
   have hp:=Zga hc;rw[ZVa h78 hc];obtain ⟨h1,h2⟩:=ih (t.drop (cutP t f)) 1 (by simp;omega);rw[List.flatten_cons,h1];refine ⟨by simp,?_⟩;simp only[List.length_cons,List.length_drop]at h2 ⊢;omega
  rw[vFa (.inl h78)];simp
theorem J4a{body:Str × Int × List Str->Option (Step (Str × Int × List Str) (Str × List Str))}(enc:Nat->Int)(g:Nat)
 (h:∀(t:Str) (f:Nat) (out:List Str),t.length<=4194304->out.length<=4194305->f<=4194304->body (t,enc f,out)=some (if 78 < t.length then (if cutP t (max f 1)=0 then .out (t,out) else .cont (t.drop (cutP t (max f 1)),enc g,out++ [t.take (cutP t (max f 1))])) else .out (t,out))) (h0:max g 1=1):
 ∀(n:Nat) (t:Str) (f:Nat) (out:List Str),t.length<=n->t.length<=4194304->out.length+t.length<=4194305->f<=4194304->∃last init,iter body (t,enc f,out)=some (last,init)/\init++ [last]=out++wPa t (max f 1):=by
 intro n;induction n with
 | zero=>
  intro t f out h1 h2 h3 h4;have hb:=h t f out h2 (by omega) h4;rw[if_neg (by omega)]at hb;exact ⟨t,out,zKa hb,by rw[vFa (.inl (by omega))]⟩
 | succ n ih=>
  intro t f out h1 h2 h3 h4;have hb:=h t f out h2 (by omega) h4;by_cases h78:78 < t.length
  .rw[if_pos h78]at hb;by_cases hc:cutP t (max f 1)=0
   .rw[if_pos hc]at hb;exact ⟨t,out,zKa hb,by rw[vFa (.inr hc)]⟩
   rw[if_neg hc]at hb;have hp:=Zga hc;obtain ⟨last,init,q1,q2⟩:=ih (t.drop (cutP t (max f 1))) g (out++ [t.take (cutP t (max f 1))]) (by simp;omega) (by simp;omega) (by simp;omega) (by omega);refine ⟨last,init,(zTa hb).trans q1,?_⟩;rw[q2,h0,ZVa h78 hc];simp
  rw[if_neg h78]at hb;exact ⟨t,out,zKa hb,by rw[vFa (.inl h78)]⟩
def txt(n v:Str):Str:=n++ [58,32]++v
def flP(n v:Str):List Str:=wPa (txt n v) (n.length+2)
theorem ksb(t:Str)(f:Nat)(ht:t.length<=4194304)(hf:f<=4194304):∃last init,iter vUa (t,(f:Int),([]:List Str))=some (last,init)/\init++ [last]=wPa t (max f 1):=by
 have:=J4a (body:=vUa) (fun n=>(n:Int)) 0 (fun t f out h1 h2 h3=>by
  unfold vUa;dsimp only;by_cases h78:78 < t.length
  .have hd:decide ((78:Int) < (t.length:Int))=true:=by rw[decide_eq_true_eq];omega
   rw[hd,if_pos h78,VJa t f h1 h3];simp only[cond_true,Option.bind_some];by_cases hc:cutP t (max f 1)=0
   .rw[if_pos hc,hc];rfl
   have hp:=Zga hc;have e:(((cutP t (max f 1):Nat):Int)==0)=false:=by rw[beq_eq_false_iff_ne];omega
   rw[if_neg hc,e,WAa (by omega),Wza (by omega)];simp only[cond_false,Option.bind_some];rw[wxa (by simp;omega)];rfl
  have hd:decide ((78:Int) < (t.length:Int))=false:=by rw[decide_eq_false_iff_not];omega
  rw[hd,if_neg h78];rfl) (by decide) t.length t f [] (Nat.le_refl _) ht (by simp;omega) hf
 simpa using this
theorem txt_cat(n v:Str)(hn:n.length<=1048576)(hv:v.length<=1048576):cat n [58,32]=some (n++ [58,32])/\cat (n++ [58,32]) v=some (txt n v)/\w64 ((n.length:Int)+2)=((n.length+2:Nat):Int):=by
 refine ⟨cat_ok (by simp;omega),cat_ok (by simp;omega),?_⟩;rw[wRa (by omega) (by omega)];omega
theorem ktb(n v:Str):(txt n v).length=n.length+2+v.length:=by unfold txt;simp;omega
def KSa(i:Nat)(l:Str):Option Int:=if 998 < l.length then some (i:Int) else none
def YLa(n v:Str):List Str × zra:=
 if !fnP n then ([],⟨10, -1⟩) else if 4000 < v.length then ([],⟨1, -1⟩) else if !valP v then ([],⟨11, -1⟩) else match z7a KSa 0 (flP n v) with | some i=>([],⟨1,i⟩) | none=>(flP n v,⟨0,0⟩)
theorem fl_len(n v:Str):(flP n v).length<=n.length+v.length+3:=by
 have:=(WHa (txt n v).length (txt n v) (n.length+2) (Nat.le_refl _)).2;have hl:=ktb n v;unfold flP;omega
theorem dec998(l:Str):decide ((998:Int) < (l.length:Int))=decide (998 < l.length):=by generalize l.length=n;rw[Bool.eq_iff_iff];simp;omega
theorem ZWa(n v:Str)(hn:n.length<=1048576)(hv:v.length<=1048576):wYa n v=some (YLa n v):=by
 obtain ⟨h1,h2,h3⟩:=txt_cat n v hn hv;have hl:=ktb n v;obtain ⟨last,init,q1,q2⟩:=ksb (txt n v) (n.length+2) (by omega) (by omega);rw[show max (n.length+2) 1=n.length+2 by omega]at q2;unfold wYa YLa;rw[WEa n hn,VHa v hv];simp only[Option.bind_some,zGa,kra];cases fnP n with
 | false=>rfl
 | true=>
  simp only[Bool.not_true,cond_false,Bool.false_eq_true,if_false];by_cases h4:4000 < v.length
  .have hd:decide ((4000:Int) < (v.length:Int))=true:=by rw[decide_eq_true_eq];omega
   rw[hd,if_pos h4];rfl
  have hd:decide ((4000:Int) < (v.length:Int))=false:=by rw[decide_eq_false_iff_not];omega
  rw[hd,if_neg h4];simp only[cond_false];cases valP v with
  | false=>rfl
  | true=>
   simp only[Bool.not_true,cond_false,Bool.false_eq_true,if_false];rw[h1];simp only[Option.bind_some];rw[h2];simp only[Option.bind_some];rw[h3,q1];simp only[Option.bind_some];have hj:=fl_len n v;have hfl:flP n v=init++ [last]:=q2.symm;have hj2:=hj;rw[hfl]at hj2;simp at hj2;rw[wxa (by simp;omega),<-hfl];simp only[Option.bind_some];rw[kta (flP n v) (fun i l=>(KSa i l).map fun k=>(([]:List Str),(⟨1,k⟩:zra))) (.inl ()) .inr]
   .simp only[Option.bind_some];have hm:∀(l:List Str) (i:Nat),z7a (fun i l=>(KSa i l).map fun k=>(([]:List Str),(⟨1,k⟩:zra))) i l=(z7a KSa i l).map fun k=>(([]:List Str),(⟨1,k⟩:zra)):=by
     intro l;induction l with
     | nil=>intro i;rfl
     | cons x l ih=>intro i;unfold z7a;rw[ih];cases KSa i x <;> rfl
    rw[hm];cases z7a KSa 0 (flP n v) <;> rfl
   .unfold wHa;rw[zPa];rfl
   intro i l hli;have hi:=zIa hli;unfold wHa KSa;rw[kna hli,zza hli];simp only[cond_true,Option.bind_some,dec998,zGa,sc i (by omega)];by_cases h9:998 < l.length
   .simp[h9]
   simp[h9]
def Z4a(f:zga):Int:=(YLa f.Name f.Value).2.Code
def J5a(l:List Str):Bool:=l.any fun s=>decide (998 < s.length)
theorem QTa(l:List Str):∀n,(z7a KSa n l).isSome=J5a l:=by
 induction l with
 | nil=>intro n;rfl
 | cons x l ih=>
  intro n;unfold z7a J5a KSa;by_cases h:998 < x.length
  .simp[h]
  simp only[h,if_false,List.any_cons,decide_false,Bool.false_or];exact ih (n+1)
def codeQ(n v:Str):Int:=if !fnP n then 10 else if 4000 < v.length then 1 else if !valP v then 11 else if J5a (flP n v) then 1 else 0
theorem codeP_eq(f:zga):Z4a f=codeQ f.Name f.Value:=by
 unfold Z4a YLa codeQ;rw[<-QTa (flP f.Name f.Value) 0];split
 .rfl
 split
 .rfl
 split
 .rfl
 cases z7a KSa 0 (flP f.Name f.Value) <;> rfl
def smallF(l:List zga):Prop:=l.length<=1048576/\∀f∈l,f.Name.length<=1048576/\f.Value.length<=1048576
def KTa(i:Nat)(f:zga):Option zra:=if Z4a f !=0 then some ⟨Z4a f,i⟩ else none
def YMa(l:List zga):zra:=if 60 < l.length then ⟨2, -1⟩ else (z7a KTa 0 l).getD ⟨0,0⟩
theorem dec60f(l:List zga):decide ((60:Int) < (l.length:Int))=decide (60 < l.length):=by generalize l.length=n;rw[Bool.eq_iff_iff];simp;omega
theorem Zia(l:List zga)(h:smallF l):qBa l=some (YMa l):=by
 obtain ⟨h1,h2⟩:=h;unfold qBa YMa;rw[kta l KTa (.inl ()) .inr]
 .simp only[Option.bind_some,zGa,kra,QQa,dec60f];by_cases h6:60 < l.length <;> simp[h6]
 .unfold qta;rw[zPa];rfl
 intro i f hf;have hi:=zIa hf;obtain ⟨hn,hv⟩:=h2 f (List.mem_of_getElem? hf);unfold qta KTa;rw[kna hf,zza hf];simp only[cond_true,Option.bind_some,ZWa _ _ hn hv,kca,zGa,sc i (by omega)];show (bif Z4a f !=0 then _ else _)=_;cases Z4a f !=0 <;> rfl
theorem J6a(l:List zga)(h:(YMa l).Code=0):¬60 < l.length/\z7a KTa 0 l=none/\∀f∈l,Z4a f=0:=by
 unfold YMa at h;by_cases h6:60 < l.length
 .rw[if_pos h6]at h;simp at h
 rw[if_neg h6]at h;cases hq:z7a KTa 0 l with
 | some y=>
  rw[hq]at h;obtain ⟨i,f,h1,h2⟩:=jLa hq;unfold KTa at h2;exfalso;by_cases hc:Z4a f=0
  .simp[hc]at h2
  have:(Z4a f !=0)=true:=by simpa using hc
  rw[this]at h2;simp at h2;subst h2;exact hc h
 | none=>
  refine ⟨h6,rfl,fun f hf=>?_⟩;obtain ⟨i,hi⟩:=List.getElem?_of_mem hf;have:=q9a.1 hq i f hi;unfold KTa at this;simpa using this
theorem codeP_ok{f:zga}(h:Z4a f=0):f.Name.length<=60/\f.Value.length<=4000/\YLa f.Name f.Value=(flP f.Name f.Value,⟨0,0⟩)/\∀l∈flP f.Name f.Value,l.length<=998:=by
 have h0:=h;rw[codeP_eq]at h;unfold codeQ at h;have h1:fnP f.Name=true:=by cases hx:fnP f.Name with
  | true=>rfl
  | false=>rw[hx]at h;simp at h
 rw[h1]at h;simp only[Bool.not_true,Bool.false_eq_true,if_false]at h;have h2:¬4000 < f.Value.length:=by intro hx;rw[if_pos hx]at h;simp at h
 rw[if_neg h2]at h;have h3:valP f.Value=true:=by cases hx:valP f.Value with
  | true=>rfl
  | false=>rw[hx]at h;simp at h
 rw[h3]at h;simp only[Bool.not_true,Bool.false_eq_true,if_false]at h;have h4:J5a (flP f.Name f.Value)=false:=by cases hx:J5a (flP f.Name f.Value) with
  | false=>rfl
  | true=>rw[hx]at h;simp at h
 refine ⟨?_,by omega,?_,?_⟩
 .unfold fnP at h1;simp only[Bool.and_eq_true,decide_eq_true_eq]at h1;exact h1.1.2
 .unfold YLa;rw[h1,h3];simp only[Bool.not_true,Bool.false_eq_true,if_false,if_neg h2];have:=QTa (flP f.Name f.Value) 0;rw[h4]at this;cases hx:z7a KSa 0 (flP f.Name f.Value) with
  | none=>rfl
  | some y=>rw[hx]at this;cases this
 intro l hl;unfold J5a at h4;rw[List.any_eq_false]at h4;have:=h4 l hl;simp at this;omega
def addL(a:List UInt8)(l:Str):List UInt8:=a++l++ [13,10]
def addF(a:List UInt8)(f:zga):List UInt8:=(flP f.Name f.Value).foldl addL a
def KUa(m:zAa):List UInt8:=m.Fields.foldl addF []++ [13,10]++m.Body
theorem lines_wr(l:List Str)(acc:List UInt8)(hl:l.length<=5000)(h9:∀s∈l,s.length<=998)(ha:acc.length<=1000000000){body:Int × List UInt8->Option (Step (Int × List UInt8) (List UInt8))}
 (h0:∀s,body ((l.length:Int),s)=some (.out s)) (h1:∀(i:Nat) x s,l[i]? =some x->s.length<=1006000000->body ((i:Int),s)=some (.cont (((i+1:Nat):Int),addL s x))):iter body (0,acc)=some (l.foldl addL acc)/\(l.foldl addL acc).length<=acc.length+1000 * l.length:=
 yTa l (fun i s=>(i,s)) addL id (fun i s=>s.length<=acc.length+1000 * i) (body:=body) (fun s _=>h0 s) (fun i x s hx hi=>by
  have hlt:=zIa hx;have h9x:=h9 x (List.mem_of_getElem? hx);refine ⟨h1 i x s hx (by omega),?_⟩;unfold addL;simp;omega) acc (by simp)
theorem kub(l:List zga)(hl:l.length<=60)(hc:∀f∈l,Z4a f=0){body:Int × List UInt8->Option (Step (Int × List UInt8) (List UInt8))}
 (h0:∀s,body ((l.length:Int),s)=some (.out s)) (h1:∀(i:Nat) f s,l[i]? =some f->s.length<=1000000000->body ((i:Int),s)=some (.cont (((i+1:Nat):Int),addF s f))/\(addF s f).length<=s.length+5000000):iter body (0,([]:List UInt8))=some (l.foldl addF [])/\(l.foldl addF []).length<=5000000 * l.length:=
 yTa l (fun i s=>(i,s)) addF id (fun i s=>s.length<=5000000 * i) (body:=body) (fun s _=>h0 s) (fun i f s hf hi=>by
  have hlt:=zIa hf;obtain ⟨q1,q2⟩:=h1 i f s hf (by omega);exact ⟨q1,by omega⟩) [] (by simp)
theorem Z5a(m:zAa)(hb:m.Body.length<=1048576)(h60:m.Fields.length<=60)(hc:∀f∈m.Fields,Z4a f=0):voa m=some (KUa m):=by
 unfold voa KUa;obtain ⟨h1,h2⟩:=kub m.Fields h60 hc (body:=qma m) (fun s=>by unfold qma;rw[zPa];rfl) (fun i f s hf hs=>by
  have hi:=zIa hf;obtain ⟨c1,c2,c3,c4⟩:=codeP_ok (hc f (List.mem_of_getElem? hf));have hfl:=fl_len f.Name f.Value;obtain ⟨q1,q2⟩:=lines_wr (flP f.Name f.Value) s (by omega) c4 hs (body:=qla (YLa f.Name f.Value)) (fun s=>by unfold qla;rw[c3,zPa];rfl) (fun k x s hx hs=>by
   have hk:=zIa hx;have:=c4 x (List.mem_of_getElem? hx);unfold qla;rw[c3,kna hx,zza hx];simp only[cond_true,Option.bind_some,sc k (by omega)];rw[wxa (by omega)];simp only[Option.bind_some];rw[wxa (by simp;omega)];rfl)
  unfold addF;refine ⟨?_,by omega⟩;unfold qma;rw[kna hf,zza hf];simp only[cond_true,Option.bind_some,ZWa f.Name f.Value (by omega) (by omega),q1,sc i (by omega)])
 rw[h1];simp only[Option.bind_some];rw[wxa (by simp;omega)];simp only[Option.bind_some];rw[wxa (by simp;omega)];rfl
def VLa:Nat->List UInt8->Option Bool
 | _,[]=>none
 | c,[x]=>if x==13 || x==10 then some true else if 998 < c+1 then some false else none
 | c,x::y::r=>if x==13 && y==10 then VLa 0 r else if x==13 || x==10 then some true else if 998 < c+1 then some false else VLa (c+1) (y::r)
def Kja{O:Type}(e:Bool->O)(c i:Nat)(x:UInt8)(r:List UInt8):Step (Int × Int) (Unit ⊕ O):=
 if x==13 && r.head? ==some 10 then .cont (0,((i+2:Nat):Int)) else if x==13 || x==10 then .out (.inr (e true)) else if 998 < c+1 then .out (.inr (e false)) else .cont (((c+1:Nat):Int),((i+1:Nat):Int))
theorem kvb{O:Type}(e:Bool->O)(l:List UInt8){body:Int × Int->Option (Step (Int × Int) (Unit ⊕ O))}
 (h0:∀c,body (c,(l.length:Int))=some (.out (.inl ())))
 (hs:∀(c:Nat) (p:List UInt8) x r,l=p++x::r->c<=998->body ((c:Int),(p.length:Int))=some (Kja e c p.length x r)):
 ∀(n:Nat) (r p:List UInt8) (c:Nat),r.length<=n->l=p++r->c<=998->iter body ((c:Int),(p.length:Int))=some ((VLa c r).elim (.inl ()) fun b=>.inr (e b)):=by
 intro n;induction n with
 | zero=>
  intro r p c hr hl hc;obtain rfl:r=[]:=List.length_eq_zero_iff.1 (by omega);have:p=l:=by simp[hl]
  subst this;exact zKa (h0 _)
 | succ n ih=>
  intro r p c hr hl hc
  match r,hr,hl with
  | [],_,hl=>
   have:p=l:=by simp[hl]
   subst this;exact zKa (h0 _)
  | [x],hr,hl=>
   have hb:=hs c p x [] hl hc;unfold Kja at hb;have e1:(x==13 && ([]:List UInt8).head? ==some 10)=false:=by simp
   rw[e1]at hb;simp only[Bool.false_eq_true,if_false]at hb;unfold VLa;cases hx:(x==13 || x==10) with
   | true=>rw[hx]at hb;exact zKa hb
   | false=>
    rw[hx]at hb;simp only[Bool.false_eq_true,if_false]at hb ⊢;by_cases h9:998 < c+1
    .rw[if_pos h9]at hb ⊢;exact zKa hb
    rw[if_neg h9]at hb ⊢;rw[zTa hb];have:=ih [] (p++ [x]) (c+1) (by simp) (by simp[hl]) (by omega);rw[List.length_append]at this;exact this
  | x::y::r,hr,hl=>
   have hb:=hs c p x (y::r) hl hc;unfold Kja at hb;have e1:((y::r).head? ==some (10:UInt8))=(y==10):=by simp
   rw[e1]at hb;unfold VLa;cases hxy:(x==13 && y==10) with
   | true=>
    rw[hxy]at hb;simp only[if_true]at hb ⊢;rw[zTa hb];have:=ih r (p++ [x,y]) 0 (by simp at hr;omega) (by simp[hl]) (by omega);rw[List.length_append]at this;exact this
   | false=>
    rw[hxy]at hb;simp only[Bool.false_eq_true,if_false]at hb ⊢;cases hx:(x==13 || x==10) with
    | true=>rw[hx]at hb;exact zKa hb
    | false=>
     rw[hx]at hb;simp only[Bool.false_eq_true,if_false]at hb ⊢;by_cases h9:998 < c+1
     .rw[if_pos h9]at hb ⊢;exact zKa hb
     rw[if_neg h9]at hb ⊢;rw[zTa hb];have:=ih (y::r) (p++ [x]) (c+1) (by simp at hr ⊢;omega) (by simp[hl]) (by omega);rw[List.length_append]at this;exact this
theorem next_is{l p r:List UInt8}{x:UInt8}(h:l=p++x::r)(hl:l.length<=1048576):(bif decide (((p.length+1:Nat):Int) < (l.length:Int)) then (idx l ((p.length+1:Nat):Int)).bind fun v13=>some (((v13.toNat:Int)==10)) else some false)=some (r.head? ==some 10):=by
 subst h;simp at hl;cases r with
 | nil=>
  have:decide (((p.length+1:Nat):Int) < ((p++ [x]).length:Int))=false:=by simp
  rw[this];rfl
 | cons y r=>
  have:decide (((p.length+1:Nat):Int) < ((p++x::y::r).length:Int))=true:=by simp;omega
  rw[this,KPa];have:(p++x::y::r)[p.length+1]? =some y:=by simp[List.getElem?_append_right]
  rw[this];simp only[cond_true,Option.bind_some,KOa y 10 (by decide)];simp
theorem VMa(l:List UInt8)(hl:l.length<=1048576):wZa l=some ((VLa 0 l).elim 0 fun b=>bif b then 11 else 1):=by
 unfold wZa;have:=kvb (fun b:Bool=>bif b then (11:Int) else 1) l (body:=qLa l) (fun c=>by unfold qLa;rw[zPa];rfl) (fun c p x r h hc=>by
  have hx:l[p.length]? =some x:=by simp[h]
  have hi:=zIa hx;unfold qLa vpa Kja;dsimp only;rw[kna hx,zza hx];simp only[cond_true,Option.bind_some,KOa x 13 (by decide),KOa x 10 (by decide),sc p.length (by omega),sc (p.length+1) (by omega),sc c (by omega)];rw[next_is h hl];have h9:decide ((998:Int) < ((c+1:Nat):Int))=decide (998 < c+1):=by rw[Bool.eq_iff_iff];simp;omega
  rw[h9];by_cases h98:998 < c+1 <;> simp only[h98,decide_true,decide_false,if_true,if_false] <;> cases x==13 <;> cases x==10 <;> cases r.head? ==some 10 <;> rfl) l.length l [] 0 (Nat.le_refl _) rfl (by omega)
 have h2:iter (qLa l) (0,0)=_:=this;rw[h2];cases VLa 0 l with
 | none=>rfl
 | some b=>cases b <;> rfl
def bodyF(l:List UInt8):zra:=(VLa 0 l).elim ⟨0,0⟩ fun b=>bif b then ⟨11, -5⟩ else ⟨1, -6⟩
theorem KVa(l:List UInt8)(hl:l.length<=1048576):vVa l=some (bodyF l):=by
 unfold vVa bodyF;rw[VMa l hl];cases VLa 0 l with
 | none=>rfl
 | some b=>cases b <;> rfl
def msgF(m:zAa):zra:=if (YMa m.Fields).Code !=0 then YMa m.Fields else if 12000 < (KUa m).length then ⟨1, -4⟩ else bodyF m.Body
def Jea(m:zAa):Prop:=smallF m.Fields/\m.Body.length<=1048576
theorem jNa(m:zAa)(h:Jea m):qna m=some (msgF m):=by
 obtain ⟨h1,h2⟩:=h;unfold qna msgF;rw[Zia _ h1];simp only[Option.bind_some,kca,zGa,KVa _ h2];cases hc:(YMa m.Fields).Code !=0 with
 | true=>rfl
 | false=>
  obtain ⟨q1,q2,q3⟩:=J6a m.Fields (by simpa using hc);rw[Z5a m h2 (by omega) q3];simp only[Option.bind_some,cond_false,Bool.false_eq_true,if_false];have:decide ((12000:Int) < ((KUa m).length:Int))=decide (12000 < (KUa m).length):=by generalize (KUa m).length=n;rw[Bool.eq_iff_iff];simp;omega
  rw[this];by_cases hb:12000 < (KUa m).length <;> simp[hb]
instance:DecidableEq zca:=fun a b=>decidable_of_iff (a.Address=b.Address/\a.Notify=b.Notify) (by cases a;cases b;simp)
instance:DecidableEq zra:=fun a b=>decidable_of_iff (a.Code=b.Code/\a.Index=b.Index) (by cases a;cases b;simp)
instance:DecidableEq zya:=fun a b=>decidable_of_iff (a.From=b.From/\a.To=b.To/\a.Id=b.Id) (by cases a;cases b;simp)
theorem rec_eq(a b:zca):yDa [(a.Address==b.Address),(a.Notify==b.Notify)]=(a==b):=by
 cases a;cases b;rw[Bool.eq_iff_iff];simp[yDa]
def VNa(s:Str):Str:=if atP s < s.length then s.drop (atP s+1) else []
theorem J7a(s:Str):(QPa s).2.1=VNa s:=by
 unfold QPa VNa;by_cases h:atP s < s.length
 .rw[if_pos h,if_pos h]
 rw[if_neg h,if_neg h]
theorem kwb{α:Type}(l:List α)(i:Nat)(z:α)(h:i<=l.length):(clr0 l i z).take i=l.take i:=by
 unfold clr0;simp[List.take_append,h]
def KWa(s:Str)(r:zca):Bool:=r.Address==s
def YNa(out:List zca)(s:Str):Bool:=out.any (KWa s)
def putR(out:List zca)(r:zca):List zca:=if YNa out r.Address then out.map (fun x=>if KWa r.Address x then ⟨x.Address,iOr x.Notify r.Notify⟩ else x) else out++ [r]
def posA(out:List zca)(s:Str):Option Nat:=out.findIdx? (KWa s)
theorem posA_has(out:List zca)(s:Str):(posA out s).isSome=YNa out s:=by unfold posA YNa;exact List.findIdx?_isSome
theorem posA_app(out:List zca)(r:zca)(s:Str)(h:YNa out r.Address=false):posA (out++ [r]) s=if r.Address==s then some out.length else posA out s:=by
 unfold posA;rw[List.findIdx?_append];by_cases hs:(r.Address==s)=true
 .rw[if_pos hs];have e:r.Address=s:=beq_iff_eq.1 hs;subst e;have:out.findIdx? (KWa r.Address)=none:=by
   have:=posA_has out r.Address;rw[h]at this;unfold posA at this;simpa using this
  rw[this];simp[KWa]
 rw[if_neg hs];have:KWa s r=false:=by unfold KWa;simpa using hs
 simp[List.findIdx?_cons,this]
theorem posA_map(out:List zca)(f:zca->zca)(hf:∀x,(f x).Address=x.Address)(s:Str):posA (out.map f) s=posA out s:=by
 unfold posA;rw[List.findIdx?_map]
 congr 1
 funext x;simp[Function.comp,KWa,hf]
structure MInv (i:Nat) (out:List zca) (m:List (Str × Int)):Prop where
 len:out.length<=i
 nd:(out.map (·.Address)).Nodup
 mp:∀s,mget m s=(posA out s).map fun k=>((k:Nat):Int)
theorem MInv.put{i:Nat}{out:List zca}{m:List (Str × Int)}(h:MInv i out m)(r:zca):MInv (i+1) (putR out r) (if YNa out r.Address then m else mput m r.Address (out.length:Int)):=by
 unfold putR;cases hh:YNa out r.Address with
 | true=>
  simp only[if_true];have hf:∀x:zca,(if KWa r.Address x then (⟨x.Address,iOr x.Notify r.Notify⟩:zca) else x).Address=x.Address:=by intro x;split <;> rfl
  refine ⟨by simp;have:=h.len;omega,?_,fun s=>?_⟩
  .rw[List.map_map,show ((·.Address) ∘ fun x:zca=>if KWa r.Address x then (⟨x.Address,iOr x.Notify r.Notify⟩:zca) else x)=(·.Address) from funext hf];exact h.nd
  rw[posA_map _ _ hf];exact h.mp s
 | false=>
  simp only[Bool.false_eq_true,if_false];refine ⟨by simp;exact h.len,?_,fun s=>?_⟩
  .rw[List.map_append,List.nodup_append];refine ⟨h.nd,by simp,?_⟩;intro a ha b hb;simp at hb;subst hb;rintro rfl;obtain ⟨x,hx,hxe⟩:=List.mem_map.1 ha;unfold YNa at hh;rw[List.any_eq_false]at hh;exact hh x hx (by simp[KWa,hxe])
  rw[J0a,posA_app _ _ _ hh,h.mp s];by_cases hs:(r.Address==s)=true
  .rw[if_pos hs,if_pos hs];rfl
  rw[if_neg hs,if_neg hs]
theorem kxb{m:zAa}(h:zAa.bk m<=1048576):Jea m:=by
 unfold zAa.bk at h;have h1:=jMa (bk:=zga.bk) (fun x=>by unfold zga.bk;omega) m.Fields;have h2:=jMa (bk:=fun _:UInt8=>1) (fun x=>by simp) m.Body;refine ⟨⟨by omega,fun f hf=>?_⟩,by omega⟩;have h5:=VEa (bk:=zga.bk) hf;have h6:zga.bk f=f.Name.length+1+(f.Value.length+1)+1:=rfl;omega
def Zja(m:kua):zra:=if (envF m.Envelope).Code !=0 then envF m.Envelope else if (msgF m.Message).Code !=0 then ⟨(msgF m.Message).Code, -30⟩ else ⟨0,0⟩
theorem w3a(m:kua)(h1:Jda m.Envelope)(h2:Jea m.Message):qra m=some (Zja m):=by
 unfold qra Zja;rw[jja _ h1,jNa _ h2];simp only[Option.bind_some,kca,zGa,kra];cases (envF m.Envelope).Code !=0 <;> cases (msgF m.Message).Code !=0 <;> rfl
theorem vta(t:Int):k7a t=some (decide (-68719476736<=t) && decide (t<=68719476736)):=by
 unfold k7a;by_cases h:(-68719476736:Int)<=t <;> simp[h]
def add1(o:List Str)(x:Str):List Str:=if o.contains x then o else o++ [x]
def QUa(o xs:List Str):List Str:=xs.foldl add1 o
theorem add1_mem(o:List Str)(x y:Str):y∈add1 o x↔y∈o∨y=x:=by
 unfold add1;split
 .rename_i h;simp at h;constructor
  .exact .inl
  rintro (h1 | rfl)
  .exact h1
  exact h
 simp
theorem YOa(o:List Str)(x:Str):o <+:add1 o x:=by
 unfold add1;split
 .exact List.prefix_refl _
 exact List.prefix_append _ _
theorem J8a{o:List Str}(h:o.Nodup)(x:Str):(add1 o x).Nodup:=by
 unfold add1;split
 .exact h
 rename_i hx;simp at hx;rw[List.nodup_append];exact ⟨h,by simp,fun a ha b hb hab=>by simp at hb;subst hb;subst hab;exact hx ha⟩
theorem J9a(xs:List Str):∀(o:List Str) (y:Str),y∈QUa o xs↔y∈o∨y∈xs:=by
 induction xs with
 | nil=>intro o y;simp[QUa]
 | cons x xs ih=>intro o y;show y∈QUa (add1 o x) xs↔_;rw[ih,add1_mem];simp[or_assoc]
theorem VOa(xs:List Str):∀o:List Str,o <+:QUa o xs:=by
 induction xs with
 | nil=>intro o;exact List.prefix_refl _
 | cons x xs ih=>intro o;exact (YOa o x).trans (ih _)
theorem WIa(xs:List Str):∀{o:List Str},o.Nodup->(QUa o xs).Nodup:=by
 induction xs with
 | nil=>intro o h;exact h
 | cons x xs ih=>intro o h;exact ih (J8a h x)
theorem nodup_le{l m:List Str}(hl:l.Nodup)(h:∀x∈l,x∈m):l.length<=m.length:=by
 induction l generalizing m with
 | nil=>simp
 | cons x l ih=>
  have hx:x∈m:=h x (by simp);obtain ⟨hxl,hl'⟩:=List.nodup_cons.1 hl;have:=ih (m:=m.erase x) hl' (fun y hy=>by
   have hne:y≠x:=by rintro rfl;exact hxl hy
   exact (List.mem_erase_of_ne hne).2 (h y (by simp[hy])))
  rw[List.length_erase_of_mem hx]at this;have:0 < m.length:=List.length_pos_of_mem hx;simp;omega
def tgtO(l:List wDa)(s:Str):Option (List Str):=(l.find? (fun a=>a.Address==s)).map (·.To)
def tgt(l:List wDa)(s:Str):List Str:=(tgtO l s).getD []
def univ(l:List wDa)(from_:List Str):List Str:=from_++l.flatMap (·.To)
theorem tgt_sub(l:List wDa)(s x:Str)(h:x∈tgt l s):∃a∈l,a.Address=s/\x∈a.To:=by
 unfold tgt tgtO at h;cases hf:l.find? (fun a=>a.Address==s) with
 | none=>rw[hf]at h;simp at h
 | some a=>
  rw[hf]at h;have:=List.find?_some hf;exact ⟨a,List.mem_of_find?_eq_some hf,by simpa using this,by simpa using h⟩
structure Inv (l:List wDa) (U:List Str) (k:Nat) (out:List Str):Prop where
 nd:out.Nodup
 sub:∀x∈out,x∈U
 le:k<=out.length
theorem Inv.len{l:List wDa}{U:List Str}{k:Nat}{out:List Str}(h:Inv l U k out):out.length<=U.length:=nodup_le h.nd h.sub
theorem Inv.step{l:List wDa}{from_:List Str}{k:Nat}{out:List Str}(h:Inv l (univ l from_) k out){s:Str}(hs:out[k]? =some s):Inv l (univ l from_) (k+1) (QUa out (tgt l s)):=by
 refine ⟨WIa _ h.nd,fun x hx=>?_,?_⟩
 .rcases (J9a _ _ _).1 hx with h1 | h1
  .exact h.sub x h1
  obtain ⟨a,ha,_,hxa⟩:=tgt_sub l s x h1;exact List.mem_append.2 (.inr (List.mem_flatMap.2 ⟨a,ha,hxa⟩))
 have:=(VOa (tgt l s) out).length_le;have:=zIa hs;omega
theorem Jfa{α β:Type}(f:α->β)(l:List α):∀o:List β,l.foldl (fun o x=>o++ [f x]) o=o++l.map f:=by
 induction l with
 | nil=>intro o;simp
 | cons x l ih=>intro o;simp[ih]
instance:DecidableEq zga:=fun a b=>decidable_of_iff (a.Name=b.Name/\a.Value=b.Value) (by cases a;cases b;simp)
instance:DecidableEq zAa:=fun a b=>decidable_of_iff (a.Fields=b.Fields/\a.Body=b.Body) (by cases a;cases b;simp)
instance:DecidableEq kua:=fun a b=>decidable_of_iff (a.Envelope=b.Envelope/\a.Message=b.Message) (by cases a;cases b;simp)
def jOa(m:kua):Prop:=Jda m.Envelope/\Jea m.Message
theorem Zka{α:Type}{lim:Nat}(l:List α)(h:l.length<=lim):(nilE l.isEmpty (some ([]:List α)) ((app lim ([]:List α) l).bind fun v=>some v))=some l:=by
 rw[wxa (by simpa using h)];simp only[List.nil_append,Option.bind_some];exact Wda _ _ _ (fun he=>by rw[List.isEmpty_iff.1 he])
theorem yVa(l:List zga)(h:l.length<=1048576):zQa l=some l:=Zka l (by omega)
theorem w4a(m:kua)(h:jOa m):kAa m=some m:=by
 obtain ⟨⟨_,_,h1,_⟩,⟨h2,_⟩,h3⟩:=h;unfold kAa;rw[Zka m.Envelope.To (by omega)];simp only[Option.bind_some];rw[yVa _ h2,Zka m.Message.Body (by omega)];rfl
theorem Kka{α:Type}{L:List α}{i:Nat}{x:α}(h:L[i]? =some x):L.set i x=L:=by
 apply List.ext_getElem?;intro j;rw[List.getElem?_set];split
 .rename_i hij;subst hij;split
  .exact h.symm
  rename_i hn;exact absurd (zIa h) hn
 rfl
theorem delAt_eq{α:Type}(L:List α)(k:Nat)(z:α)(hk:k < L.length)(hl:L.length<=1048576):((cut3 L (k:Int) ((w64 ((k:Int)+1))) ((L.length:Int))).bind fun v34=>(bif ((k:Int)==(w64 ((k:Int)+1))) then some L else (cut L 0 (k:Int)).bind fun v37=>(cut L ((w64 ((k:Int)+1))) (L.length:Int)).bind fun v39=>(shft L (k:Int) ((w64 ((k:Int)+1)))).bind fun v41=>(KBa v41 (((((Int.toNat (k:Int))+(L.length - (Int.toNat ((w64 ((k:Int)+1)))))):Nat):Int)) ((L.length:Int))).bind fun v43=>some ((List.take ((Int.toNat (k:Int))+(L.length - (Int.toNat ((w64 ((k:Int)+1)))))) ((clr0 v41 (Int.toNat (((((Int.toNat (k:Int))+(L.length - (Int.toNat ((w64 ((k:Int)+1)))))):Nat):Int))) z))))))=some (L.take k++L.drop (k+1)):=by
 rw[sc k (by omega)];have e1:cut3 L (k:Int) ((k+1:Nat):Int) (L.length:Int)=some ():=by unfold cut3;rw[if_pos ⟨by omega,by omega,by omega,by omega⟩]
 have e2:((k:Int)==((k+1:Nat):Int))=false:=by rw[beq_eq_false_iff_ne];omega
 rw[e1,e2,WAa (by omega),Wza (by omega)];simp only[Option.bind_some,cond_false,Int.toNat_natCast];have e3:shft L (k:Int) ((k+1:Nat):Int)=some (L.take k++L.drop (k+1)++L.drop (k+(L.length - (k+1)))):=by
  unfold shft;rw[if_pos ⟨by omega,by omega,by omega⟩];simp only[Int.toNat_natCast]
 rw[e3];simp only[Option.bind_some];have hlen:(L.take k++L.drop (k+1)++L.drop (k+(L.length - (k+1)))).length=L.length:=by simp;omega
 have e4:KBa (L.take k++L.drop (k+1)++L.drop (k+(L.length - (k+1)))) ((k+(L.length - (k+1)):Nat):Int) (L.length:Int)=some ():=by
  unfold KBa;rw[if_pos ⟨by omega,by omega,by rw[hlen]⟩]
 rw[e4];simp only[Option.bind_some];rw[kwb _ _ _ (by rw[hlen];omega)];have e5:(L.take k++L.drop (k+1)).length=k+(L.length - (k+1)):=by simp;omega
 rw[<-e5,List.take_left'];rfl
theorem QVa{m:kua}(h:kua.bk m<=1048576):jOa m:=by
 have hb:kua.bk m=zya.bk m.Envelope+zAa.bk m.Message+1:=rfl;exact ⟨kmb (by omega),kxb (by omega)⟩
def wBad(w:zda)(r:zca):Bool:= !(w.Recipient==r) || (!(w.Result==0) && !(w.Result==1) && !(w.Result==3)) || (w.Busy && !(w.Result==0))
def opnW(w:zda):Bool:=w.Result==0
def Z6a(e:zba):Bool:=decide (e.To.length=e.Mail.Envelope.To.length) && !((e.To.zip e.Mail.Envelope.To).any fun p=>wBad p.1 p.2) && e.To.any opnW
theorem wBad_eq(w:zda)(r:zca):((bif (!(yDa [(w.Recipient.Address==r.Address),(w.Recipient.Notify==r.Notify)])) then some true else (bif (w.Result !=0) then (bif (w.Result !=1) then (bif (w.Result !=3) then some true else (bif w.Busy then some ((w.Result !=0)) else some false)) else (bif w.Busy then some ((w.Result !=0)) else some false)) else (bif w.Busy then some ((w.Result !=0)) else some false))):Option Bool)=some (wBad w r):=by
 rw[rec_eq];unfold wBad;by_cases h0:w.Result=0
 .rw[h0];cases w.Recipient==r <;> cases w.Busy <;> rfl
 have e0:(w.Result==0)=false:=beq_eq_false_iff_ne.2 h0;simp only[bne,e0];cases w.Recipient==r <;> cases w.Busy <;> cases w.Result==1 <;> cases w.Result==3 <;> rfl
theorem zip_get{α β:Type}{a:List α}{b:List β}{p:List (α × β)}{x:α × β}{r:List (α × β)}(h:a.zip b=p++x::r):a[p.length]? =some x.1/\b[p.length]? =some x.2:=by
 have:(a.zip b)[p.length]? =some x:=by rw[h];simp
 rw[List.getElem?_zip_eq_some]at this;exact this
theorem kyb{β:Type}(q:zda->Bool):∀{a:List zda} {b:List β},a.length=b.length->((a.zip b).any fun p=>q p.1)=a.any q
 | [],_,_=>by simp
 | x::a,[],h=>by simp at h
 | x::a,y::b,h=>by simp only[List.zip_cons_cons,List.any_cons];rw[kyb q (by simpa using h)]
theorem yva(e:zba)(h:e.To.length<=1048576):qga e=some (Z6a e):=by
 unfold qga Z6a;by_cases hl:e.To.length=e.Mail.Envelope.To.length
 .rw[show ((e.To.length:Int) !=(e.Mail.Envelope.To.length:Int))=false by rw[hl];simp];simp only[cond_false];have hz:(e.To.zip e.Mail.Envelope.To).length=e.To.length:=by rw[List.length_zip];omega
  have hloop:iter (kLa e) (false,0)=some (if (e.To.zip e.Mail.Envelope.To).any (fun p=>wBad p.1 p.2) then .inr false else .inl (false || (e.To.zip e.Mail.Envelope.To).any fun p=>opnW p.1)):=by
   refine KQa (e.To.zip e.Mail.Envelope.To) (fun n s=>(s,(n:Int))) (fun n r s=>(if r.any (fun p=>wBad p.1 p.2) then .inr false else .inl (s || r.any fun p=>opnW p.1):Bool ⊕ Bool)) (fun s=>?_) (fun p x r s hp=>?_) false rfl
   .unfold kLa;dsimp only;rw[hz,zPa];simp
   obtain ⟨g1,g2⟩:=zip_get hp;have hlt:=zIa g1;have hb:kLa e (s,(p.length:Int))=some (if wBad x.1 x.2 then .out (.inr false) else .cont (s || opnW x.1,((p.length+1:Nat):Int))):=by
    unfold kLa qoa;dsimp only;rw[kna g1,zza g1,zza g2];simp only[cond_true,Option.bind_some,wBad_eq,sc _ (show p.length < 9223372036854775807 by omega)];unfold opnW;cases wBad x.1 x.2 <;> cases s <;> rfl
   rw[hb];cases hw:wBad x.1 x.2 with
   | true=>left;simp[hw]
   | false=>right;exact ⟨_,rfl,by simp only[List.any_cons,hw,Bool.false_or,Bool.or_assoc]⟩
  rw[hloop];simp only[Bool.false_or,kyb opnW hl];rw[decide_eq_true hl];cases (e.To.zip e.Mail.Envelope.To).any (fun p=>wBad p.1 p.2) <;> rfl
 rw[show ((e.To.length:Int) !=(e.Mail.Envelope.To.length:Int))=true by simp;omega,decide_eq_false hl];rfl
def yla(t:Int):Bool:=decide (-68719476736<=t) && decide (t<=68719476736)
def rngQ(e:zba):Bool:=yla e.Since && yla e.Due && decide (0<=e.Tries) && decide (e.Tries<=1000000)
def queR(nx:Int):Nat->Int->List zba->Option zra
 | _,_,[]=>none
 | i,last,e::r=>if (Zja e.Mail).Code !=0 then some ⟨(Zja e.Mail).Code,i⟩ else if decide (e.Id<=last) || decide (nx<=e.Id) then some ⟨19,i⟩ else if !rngQ e then some ⟨3,i⟩ else if !Z6a e then some ⟨5,i⟩ else queR nx (i+1) e.Id r
theorem Zla(nx:Int)(i:Nat)(last:Int)(e:zba)(r:List zba):queR nx i last (e::r)=if (Zja e.Mail).Code !=0 then some ⟨(Zja e.Mail).Code,i⟩ else if decide (e.Id<=last) || decide (nx<=e.Id) then some ⟨19,i⟩ else if !rngQ e then some ⟨3,i⟩ else if !Z6a e then some ⟨5,i⟩ else queR nx (i+1) e.Id r:=rfl
def queF(q:zpa):zra:=if 20 < q.Entries.length then ⟨2, -1⟩ else if decide (q.Next < 0) || decide (1000000 < q.Next) then ⟨3, -2⟩ else (queR q.Next 0 (-1) q.Entries).getD ⟨0,0⟩
def vAa(q:zpa):Prop:=q.Entries.length<=1048576/\∀e∈q.Entries,jOa e.Mail/\e.To.length<=1048576
theorem vGa(q:zpa)(h:vAa q):kTa q=some (queF q):=by
 unfold kTa queF;by_cases h20:20 < q.Entries.length
 .rw[decide_eq_true (show (20:Int) < (q.Entries.length:Int) by omega),if_pos h20];rfl
 rw[decide_eq_false (show ¬(20:Int) < (q.Entries.length:Int) by omega),if_neg h20];simp only[cond_false,Option.bind_some];have e1:((bif decide (q.Next < 0) then some true else some (decide (1000000 < q.Next))):Option Bool)=some (decide (q.Next < 0) || decide (1000000 < q.Next)):=by cases decide (q.Next < 0) <;> rfl
 rw[e1];simp only[Option.bind_some];cases hn:decide (q.Next < 0) || decide (1000000 < q.Next) with
 | true=>rfl
 | false=>
  simp only[cond_false,Bool.false_eq_true,if_false];have hloop:iter (kCa q) (-1,0)=some ((queR q.Next 0 (-1) q.Entries).elim (.inl ()) .inr):=by
   refine KQa q.Entries (fun n (s:Int)=>(s,(n:Int))) (fun n r s=>((queR q.Next n s r).elim (.inl ()) .inr:Unit ⊕ zra)) (fun s=>?_) (fun p x r s hp=>?_) (-1) rfl
   .unfold kCa;dsimp only;rw[zPa];rfl
   have hx:q.Entries[p.length]? =some x:=by rw[hp];simp
   have hlt:=zIa hx;obtain ⟨⟨m1,m2⟩,m3⟩:=h.2 x (List.mem_of_getElem? hx);have hb:kCa q (s,(p.length:Int))=some (if (Zja x.Mail).Code !=0 then .out (.inr ⟨(Zja x.Mail).Code,p.length⟩) else if decide (x.Id<=s) || decide (q.Next<=x.Id) then .out (.inr ⟨19,p.length⟩) else if !rngQ x then .out (.inr ⟨3,p.length⟩) else if !Z6a x then .out (.inr ⟨5,p.length⟩) else .cont (x.Id,((p.length+1:Nat):Int))):=by
    unfold kCa;dsimp only;rw[kna hx,zza hx];simp only[cond_true,Option.bind_some,w3a x.Mail m1 m2,kca,zGa,vta,yva x m3,sc _ (show p.length < 9223372036854775807 by omega)];have e2:decide (x.Tries < 0)= !decide (0<=x.Tries):=by rw[Bool.eq_iff_iff];simp
    have e3:decide ((1000000:Int) < x.Tries)= !decide (x.Tries<=1000000):=by rw[Bool.eq_iff_iff];simp
    rw[e2,e3];unfold rngQ yla;cases (Zja x.Mail).Code !=0 <;> cases decide (x.Id<=s) <;> cases decide (q.Next<=x.Id) <;> cases (decide (-68719476736<=x.Since) && decide (x.Since<=68719476736)) <;> cases (decide (-68719476736<=x.Due) && decide (x.Due<=68719476736)) <;> cases decide (0<=x.Tries) <;> cases decide (x.Tries<=1000000) <;> cases Z6a x <;> rfl
   rw[hb,Zla];split
   .exact .inl rfl
   split
   .exact .inl rfl
   split
   .exact .inl rfl
   split
   .exact .inl rfl
   exact .inr ⟨_,rfl,rfl⟩
  rw[hloop];cases queR q.Next 0 (-1) q.Entries <;> rfl
def kzb(l:List zba):Prop:=l.length<=1048576/\∀e∈l,jOa e.Mail/\e.To.length<=1048576
theorem qCa(l:List zba)(h:l.length<=1048576):zBa l=some l:=Zka l (by omega)
theorem yma(l:List zda)(h:l.length<=1048576):zva l=some l:=Zka l (by omega)
theorem KXa(L:List zba)(h:kzb L):iter (vWa L) (0,0,L)=some (L,L.length):=by
 refine KQa L (fun n (_:Unit)=>((n:Int),n,L)) (fun n r _=>(L,L.length)) (fun _=>?_) (fun p x r _ hp=>.inr ⟨(),?_,rfl⟩) () rfl
 .unfold vWa;dsimp only;rw[zPa];rfl
 have hx:L[p.length]? =some x:=by rw[hp];simp
 have hlt:=zIa hx;have h0:=h.1;obtain ⟨h1,h2⟩:=h.2 x (List.mem_of_getElem? hx);unfold vWa;dsimp only;rw[kna hx,zza hx];simp only[cond_true,Option.bind_some,w4a x.Mail h1,yma x.To h2,QHa,JUa,Int.toNat_natCast,Nat.le_refl,if_true,Kka hx,zza hx,sc _ (show p.length < 9223372036854775807 by omega)]
theorem YPa(m:kua)(h:m.Envelope.To.length<=1048576):iter (vda m) (0,([]:List zda))=some (m.Envelope.To.map fun r=>⟨r,0,false⟩):=by
 have:=(yTa m.Envelope.To (fun i acc=>(i,acc)) (fun acc r=>acc++ [(⟨r,0,false⟩:zda)]) (fun acc=>acc) (fun i acc=>acc.length=i) (body:=vda m) (fun s hs=>by unfold vda;simp[zPa]) (fun i r acc hr hi=>by
  have hlt:=zIa hr;refine ⟨?_,by simp[hi]⟩;unfold vda;dsimp only;rw[kna hr,zza hr];simp only[cond_true,Option.bind_some,sc i (by omega)];rw[wxa (by simp;omega)];rfl) ([]:List zda) rfl).1
 rw[this,Jfa (fun r=>(⟨r,0,false⟩:zda))];rfl
def newE(q:zpa)(m:kua)(now:Int):zba:=⟨q.Next,m,now,0,now,m.Envelope.To.map fun r=>⟨r,0,false⟩⟩
def addP(q:zpa)(m:kua)(now:Int):zpa × Int × zra:=
 if (queF q).Code !=0 then (⟨[],0⟩,0,queF q) else if (Zja m).Code !=0 then (⟨[],0⟩,0,⟨(Zja m).Code, -6⟩) else if !yla now then (⟨[],0⟩,0,⟨3, -7⟩) else
 if q.Entries.length=20∨q.Next=1000000 then (⟨[],0⟩,0,⟨2, -8⟩) else (⟨q.Entries++ [newE q m now],q.Next+1⟩,q.Next,⟨0,0⟩)
theorem KYa{nx:Int}:∀{l:List zba} {i:Nat} {last:Int},queR nx i last l=none->∀e∈l,(Zja e.Mail).Code=0/\last < e.Id/\e.Id < nx/\rngQ e=true/\Z6a e=true
 | [],_,_,_,e,he=>by cases he
 | x::l,i,last,h,e,he=>by
  rw[Zla]at h;split at h
  .cases h
  rename_i h1;split at h
  .cases h
  rename_i h2;split at h
  .cases h
  rename_i h3;split at h
  .cases h
  rename_i h4;simp at h1 h2 h3 h4;rcases List.mem_cons.1 he with rfl | he
  .exact ⟨h1,by omega,by omega,h3,h4⟩
  obtain ⟨a,b,c⟩:=KYa h e he;exact ⟨a,by omega,c⟩
theorem Jga{nx:Int}:∀{l:List zba} {i:Nat} {last:Int},queR nx i last l=none->l.Pairwise (fun a b=>a.Id < b.Id)
 | [],_,_,_=>List.Pairwise.nil
 | x::l,i,last,h=>by
  rw[Zla]at h;split at h
  .cases h
  split at h
  .cases h
  split at h
  .cases h
  split at h
  .cases h
  exact List.pairwise_cons.2 ⟨fun e he=>(KYa h e he).2.1,Jga h⟩
structure QueOk (q:zpa):Prop where
 n:q.Entries.length<=20
 nx:0<=q.Next/\q.Next<=1000000
 ent:∀e∈q.Entries,(Zja e.Mail).Code=0/\0<=e.Id/\e.Id < q.Next/\rngQ e=true/\Z6a e=true
 ids:q.Entries.Pairwise (fun a b=>a.Id < b.Id)
theorem jPa{q:zpa}(h:(queF q).Code=0):QueOk q/\queF q=⟨0,0⟩:=by
 unfold queF at h ⊢;by_cases h20:20 < q.Entries.length
 .rw[if_pos h20]at h;cases h
 rw[if_neg h20]at h ⊢;cases hn:decide (q.Next < 0) || decide (1000000 < q.Next) with
 | true=>rw[hn]at h;cases h
 | false=>
  rw[hn]at h;simp only[Bool.false_eq_true,if_false]at h ⊢;cases hr:queR q.Next 0 (-1) q.Entries with
  | none=>
   refine ⟨⟨by omega,by simp at hn;omega,fun e he=>?_,Jga hr⟩,rfl⟩;obtain ⟨a,b,c⟩:=KYa hr e he;exact ⟨a,by omega,c⟩
  | some f=>
   exfalso;rw[hr]at h;simp only[Option.getD_some]at h;have aux:∀(l:List zba) (i:Nat) (last:Int),queR q.Next i last l=some f->f.Code≠0:=by
    intro l;induction l with
    | nil=>intro i last hh;cases hh
    | cons x l ih=>
     intro i last hh;rw[Zla]at hh;split at hh
     .rename_i h1;cases hh;simpa using h1
     split at hh
     .cases hh;show (19:Int)≠0;decide
     split at hh
     .cases hh;show (3:Int)≠0;decide
     split at hh
     .cases hh;show (5:Int)≠0;decide
     exact ih _ _ hh
   exact aux _ _ _ hr h
theorem WJa(q:zpa)(m:kua)(now:Int)(hq:vAa q)(hm:jOa m):ySa q m now=some (addP q m now):=by
 unfold ySa addP;rw[vGa q hq];simp only[Option.bind_some,kca,zGa,kra,vta];by_cases hc:(queF q).Code=0
 .obtain ⟨ok,hF⟩:=jPa hc;have h1:((queF q).Code !=0)=false:=by simp[hc]
  have hn:=ok.n;have hnx:=ok.nx;have hto:=hm.1.2.2.1;rw[h1,w3a m hm.1 hm.2];simp only[Option.bind_some,cond_false,Bool.false_eq_true,if_false];cases hmc:(Zja m).Code !=0 with
  | true=>rfl
  | false=>
   simp only[cond_false,Bool.false_eq_true,if_false];show (bif !yla now then _ else _)=_;cases yla now with
   | false=>rfl
   | true=>
    simp only[Bool.not_true,cond_false,Bool.false_eq_true,if_false];have e1:((bif ((q.Entries.length:Int)==20) then some true else some ((q.Next==1000000))):Option Bool)=some (decide (q.Entries.length=20∨q.Next=1000000)):=by
     by_cases h20:q.Entries.length=20
     .rw[h20];simp
     rw[show ((q.Entries.length:Int)==20)=false by rw[beq_eq_false_iff_ne];omega];simp only[cond_false,Option.some.injEq];rw[Bool.eq_iff_iff];simp[h20]
    rw[e1];simp only[Option.bind_some];by_cases hl:q.Entries.length=20∨q.Next=1000000
    .rw[decide_eq_true hl,if_pos hl];rfl
    rw[decide_eq_false hl,if_neg hl];simp only[cond_false];rw[qCa _ hq.1];simp only[Option.bind_some];rw[KXa _ hq];simp only[Option.bind_some];rw[w4a m hm,YPa m hto];simp only[Option.bind_some,nall,if_true];rw[wxa (by simp;omega),wRa (by omega) (by omega)];rfl
 have h1:((queF q).Code !=0)=true:=by simpa using hc
 rw[h1];rfl
theorem ZJa{a b:zba}:ltE a b=true↔a.Due < b.Due∨a.Due=b.Due/\a.Id < b.Id:=by unfold ltE;simp
theorem YQa{a b:zba}:ltE a b=false↔¬(a.Due < b.Due∨a.Due=b.Due/\a.Id < b.Id):=by rw[<-ZJa];simp
theorem kAb{a b:zba}(h:ltE a b=true):ltE b a=false:=by rw[ZJa]at h;rw[YQa];omega
theorem QWa{a b c:zba}(h1:ltE a b=false)(h2:ltE b c=false):ltE a c=false:=by rw[YQa]at *;omega
theorem KZa(x:zba):∀l:List zba,(insE x l).Perm (x::l)
 | []=>List.Perm.refl _
 | y::l=>by
  unfold insE;cases ltE y x with
  | true=>exact ((KZa x l).cons y).trans (List.Perm.swap x y l)
  | false=>exact List.Perm.refl _
theorem w5a:∀l:List zba,(wNa l).Perm l
 | []=>List.Perm.refl _
 | x::l=>(KZa x (wNa l)).trans ((w5a l).cons x)
theorem K0a(x:zba):∀l:List zba,l.Pairwise (fun a b=>ltE b a=false)->(insE x l).Pairwise (fun a b=>ltE b a=false)
 | [],_=>by simp[insE]
 | y::l,h=>by
  obtain ⟨h1,h2⟩:=List.pairwise_cons.1 h;unfold insE;cases hyx:ltE y x with
  | true=>
   refine List.pairwise_cons.2 ⟨fun z hz=>?_,K0a x l h2⟩;rcases List.mem_cons.1 ((KZa x l).mem_iff.1 hz) with rfl | hz
   .exact kAb hyx
   exact h1 z hz
  | false=>
   refine List.pairwise_cons.2 ⟨fun z hz=>?_,h⟩;rcases List.mem_cons.1 hz with rfl | hz
   .exact hyx
   exact QWa (h1 z hz) hyx
theorem ZXa:∀l:List zba,(wNa l).Pairwise (fun a b=>ltE b a=false)
 | []=>List.Pairwise.nil
 | x::l=>K0a x _ (ZXa l)
theorem WKa:∀{l:List zba},Qka l=true->∀x∈l,∀y∈l,ltE x y=false->ltE y x=false->x=y
 | [],_,x,hx,_,_,_,_=>by cases hx
 | a::l,h,x,hx,y,hy,h1,h2=>by
  unfold Qka at h;rw[Bool.and_eq_true,List.all_eq_true]at h;rcases List.mem_cons.1 hx with rfl | hx' <;> rcases List.mem_cons.1 hy with rfl | hy'
  .rfl
  .have:=h.1 y hy';rw[h1,h2]at this;cases this
  .have:=h.1 x hx';rw[h1,h2]at this;cases this
  exact WKa h.2 x hx' y hy' h1 h2
theorem jxa:∀{a b:List zba},a.Perm b->a.Pairwise (fun a b=>ltE b a=false)->b.Pairwise (fun a b=>ltE b a=false)->(∀x∈a,∀y∈a,ltE x y=false->ltE y x=false->x=y)->a=b
 | [],b,h,_,_,_=>(List.nil_perm.1 h).symm
 | x::a,[],h,_,_,_=>by have:=h.length_eq;simp at this
 | x::a,y::b,h,ha,hb,ht=>by
  obtain ⟨a1,a2⟩:=List.pairwise_cons.1 ha;obtain ⟨b1,b2⟩:=List.pairwise_cons.1 hb;have hxy:x=y:=by
   rcases List.mem_cons.1 (h.mem_iff.1 (List.mem_cons_self (a:=x))) with e | hxb
   .exact e
   have hy:y∈x::a:=h.mem_iff.2 List.mem_cons_self;rcases List.mem_cons.1 hy with e | hya
   .exact e.symm
   exact ht x List.mem_cons_self y hy (b1 x hxb) (a1 y hya)
  subst hxy;rw[jxa (List.Perm.cons_inv h) a2 b2 fun u hu v hv=>ht u (List.mem_cons_of_mem _ hu) v (List.mem_cons_of_mem _ hv)]
theorem YRa{l l' :List zba}(hp:l'.Perm l)(hs:l'.Pairwise (fun a b=>ltE b a=false))(h:Qka l=true):l' =wNa l:=
 jxa (hp.trans (w5a l).symm) hs (ZXa l) fun x hx y hy=>WKa h x (hp.mem_iff.1 hx) y (hp.mem_iff.1 hy)
theorem jfa{K V:Type}[BEq K][LawfulBEq K](m:List (K × V))(k:K)(v:V)(x:K):mget (mput m k v) x=if k==x then some v else mget m x:=by
 induction m with
 | nil=>rfl
 | cons p m ih=>
  obtain ⟨k',v'⟩:=p;unfold mput;by_cases h:k' =k
  .subst h;simp only[beq_self_eq_true,if_true,mget];cases k' ==x <;> simp
  have h1:(k' ==k)=false:=by simpa using h
  rw[h1];simp only[Bool.false_eq_true,if_false,mget];rw[ih];by_cases h2:k' =x
  .subst h2;have:(k==k')=false:=by simpa using fun h' =>h h'.symm
   simp[this]
  have:(k' ==x)=false:=by simpa using h2
  rw[this];simp
def wDom(w:zda):Str:=VNa w.Recipient.Address
def yna(l:List zda):Prop:=l.length<=1048576/\∀w∈l,w.Recipient.Address.length<=1048576
def uwL(l:List zda)(d:Str):Bool:=l.any fun w=>w.Busy && wDom w==d
def uwP(e:zba)(d:Str):Bool:=uwL e.To d
def vxa(l:List zba)(d:Str):Nat:=l.countP fun e=>uwP e d
def qZa(d:Str):Nat->List zda->List Int
 | _,[]=>[]
 | n,w::r=>if opnW w && wDom w==d then (n:Int)::qZa d (n+1) r else qZa d (n+1) r
theorem ZYa(d:Str)(r:List zda):∀(p:List zda) (n:Nat),qZa d n (p++r)=qZa d n p++qZa d (n+p.length) r
 | [],n=>by simp[qZa]
 | w::p,n=>by
  simp only[List.cons_append,qZa];rw[ZYa d r p (n+1),show n+1+p.length=n+(w::p).length by simp;omega];split <;> simp
theorem WLa(d:Str):∀(r:List zda) (n:Nat),(qZa d n r).length<=r.length
 | [],_=>Nat.le_refl _
 | w::r,n=>by
  have:=WLa d r (n+1);unfold qZa;split <;> simp <;> omega
def yWa(D:List Str):List zda->List Str
 | []=>[]
 | w::r=>if opnW w && !D.contains (wDom w) then wDom w::yWa (D++ [wDom w]) r else yWa D r
theorem kBb(r:List zda):∀D,(yWa D r).length<=r.length:=by
 induction r with
 | nil=>intro D;exact Nat.le_refl _
 | cons w r ih=>
  intro D;unfold yWa;split
  .have:=ih (D++ [wDom w]);simp;omega
  have:=ih D;simp;omega
theorem wza(s:Str)(h:s.length<=1048576):qaa s=some (VNa s):=by
 unfold qaa;rw[w2a s (by omega)];simp only[Option.bind_some,J7a]
theorem WMa(l:List zba)(d:Str):vxa l d<=l.length:=List.countP_le_length
theorem zab(e:zba)(h:yna e.To)(u0:List ((Int × Str) × Bool))(m0:List (Str × Int))(hu:∀d,(mget u0 (e.Id,d)).getD false=false)(hm:∀d,0<=(mget m0 d).getD 0/\(mget m0 d).getD 0<=1048576):
 ∃u m,iter (kUa e) (0,u0,m0)=some (u,m)/\(∀id d,(mget u (id,d)).getD false=(id==e.Id && uwP e d || (mget u0 (id,d)).getD false))/\∀d,(mget m d).getD 0=(mget m0 d).getD 0+(if uwP e d then 1 else 0):=by
 have h0:=h.1;have key:∀r p u m,e.To=p++r->(∀id d,(mget u (id,d)).getD false=(id==e.Id && uwL p d || (mget u0 (id,d)).getD false))->(∀d,(mget m d).getD 0=(mget m0 d).getD 0+(if uwL p d then 1 else 0))->
  ∃u2 m2,iter (kUa e) ((p.length:Int),u,m)=some (u2,m2)/\(∀id d,(mget u2 (id,d)).getD false=(id==e.Id && uwP e d || (mget u0 (id,d)).getD false))/\∀d,(mget m2 d).getD 0=(mget m0 d).getD 0+(if uwP e d then 1 else 0):=by
  intro r;induction r with
  | nil=>
   intro p u m hp h1 h2;obtain rfl:e.To=p:=by simpa using hp
   refine ⟨u,m,zKa ?_,h1,h2⟩;unfold kUa;dsimp only;rw[zPa];rfl
  | cons w r ih=>
   intro p u m hp h1 h2;have hx:e.To[p.length]? =some w:=by rw[hp];simp
   have hlt:=zIa hx;have hun:∀d,uwL (p++ [w]) d=(uwL p d || (w.Busy && wDom w==d)):=fun d=>by unfold uwL;simp
   have hb:kUa e ((p.length:Int),u,m)=some (.cont (((p.length+1:Nat):Int),if w.Busy && !uwL p (wDom w) then mput u (e.Id,wDom w) true else u,if w.Busy && !uwL p (wDom w) then mput m (wDom w) ((mget m (wDom w)).getD 0+1) else m)):=by
    unfold kUa;dsimp only;rw[kna hx,zza hx];simp only[cond_true,Option.bind_some,wza _ (h.2 w (List.mem_of_getElem? hx)),sc _ (show p.length < 9223372036854775807 by omega)];have e1:(mget u (e.Id,VNa w.Recipient.Address)).getD false=uwL p (wDom w):=by
     have:=h1 e.Id (wDom w);rw[hu]at this;have h3:(mget u (e.Id,wDom w)).getD false=uwL p (wDom w):=by simpa using this
     exact h3
    rw[e1];have e2:w64 ((mget m (VNa w.Recipient.Address)).getD 0+1)=(mget m (wDom w)).getD 0+1:=by
     have:=h2 (wDom w);have:=hm (wDom w);refine wRa ?_ ?_
     .show _<=(mget m (wDom w)).getD 0+1;split at * <;> omega
     show (mget m (wDom w)).getD 0+1<=_;split at * <;> omega
    rw[e2];cases w.Busy <;> cases uwL p (wDom w) <;> rfl
   rw[zTa hb];have:=ih (p++ [w]) (if w.Busy && !uwL p (wDom w) then mput u (e.Id,wDom w) true else u) (if w.Busy && !uwL p (wDom w) then mput m (wDom w) ((mget m (wDom w)).getD 0+1) else m) (by simp[hp]) (fun id d=>by
    rw[hun];cases hc:w.Busy && !uwL p (wDom w) with
    | true=>
     simp only[Bool.and_eq_true,Bool.not_eq_true']at hc;rw[if_pos rfl,jfa];by_cases hk:(e.Id,wDom w)=(id,d)
     .cases hk;simp[hc.1]
     have hk' :((e.Id,wDom w)==(id,d))=false:=beq_eq_false_iff_ne.2 hk;rw[hk'];simp only[Bool.false_eq_true,if_false];rw[h1];by_cases hi:id=e.Id
     .subst hi;have hd:(wDom w==d)=false:=beq_eq_false_iff_ne.2 fun h=>hk (by rw[h])
      simp[hd]
     have:(id==e.Id)=false:=beq_eq_false_iff_ne.2 hi;simp[this]
    | false=>
     rw[if_neg (by decide),h1];cases hbz:w.Busy with
     | false=>simp
     | true=>
      rw[hbz]at hc;simp only[Bool.true_and,Bool.not_eq_eq_eq_not,Bool.not_false]at hc;by_cases hd:wDom w=d
      .subst hd;simp[hc]
      have:(wDom w==d)=false:=beq_eq_false_iff_ne.2 hd;simp[this]) (fun d=>by
    rw[hun];cases hc:w.Busy && !uwL p (wDom w) with
    | true=>
     simp only[Bool.and_eq_true,Bool.not_eq_true']at hc;rw[if_pos rfl,jfa];by_cases hk:wDom w=d
     .subst hk;simp only[beq_self_eq_true,if_true,Option.getD_some];rw[h2,hc.1,hc.2];simp
     have hk' :(wDom w==d)=false:=beq_eq_false_iff_ne.2 hk;rw[hk'];simp only[Bool.false_eq_true,if_false];rw[h2];simp
    | false=>
     rw[if_neg (by decide),h2];cases hbz:w.Busy with
     | false=>simp
     | true=>
      rw[hbz]at hc;simp only[Bool.true_and,Bool.not_eq_eq_eq_not,Bool.not_false]at hc;by_cases hd:wDom w=d
      .subst hd;simp[hc]
      have:(wDom w==d)=false:=beq_eq_false_iff_ne.2 hd;simp[this])
   simpa using this
 exact key e.To [] u0 m0 rfl (fun id d=>by simp[uwL]) (fun d=>by simp[uwL])
theorem kCb(q:zpa)(hl:q.Entries.length<=20)(h:∀e∈q.Entries,yna e.To)(hid:q.Entries.Pairwise (fun a b=>a.Id < b.Id)):
 ∃u m,iter (kVa q) (0,([]:List ((Int × Str) × Bool)),([]:List (Str × Int)))=some (u,m)/\(∀id d,(mget u (id,d)).getD false=q.Entries.any fun e=>id==e.Id && uwP e d)/\∀d,(mget m d).getD 0=(vxa q.Entries d:Int):=by
 have key:∀r p u m,q.Entries=p++r->(∀id d,(mget u (id,d)).getD false=p.any fun e=>id==e.Id && uwP e d)->(∀d,(mget m d).getD 0=(vxa p d:Int))->
  ∃u2 m2,iter (kVa q) ((p.length:Int),u,m)=some (u2,m2)/\(∀id d,(mget u2 (id,d)).getD false=q.Entries.any fun e=>id==e.Id && uwP e d)/\∀d,(mget m2 d).getD 0=(vxa q.Entries d:Int):=by
  intro r;induction r with
  | nil=>
   intro p u m hp h1 h2;have hp' :q.Entries=p:=by simpa using hp
   refine ⟨u,m,zKa ?_,by rw[hp'];exact h1,by rw[hp'];exact h2⟩;unfold kVa;dsimp only;rw[<-hp',zPa];rfl
  | cons e r ih=>
   intro p u m hp h1 h2;have hx:q.Entries[p.length]? =some e:=by rw[hp];simp
   have hlt:=zIa hx;obtain ⟨u',m',hin,i1,i2⟩:=zab e (h e (List.mem_of_getElem? hx)) u m (fun d=>by
    rw[h1,List.any_eq_false];intro x hxp hc;rw[hp,List.pairwise_append]at hid;have:=hid.2.2 x hxp e (by simp);simp at hc;omega) (fun d=>by
    rw[h2];have:=WMa p d;have:p.length<=20:=by rw[hp]at hl;simp at hl;omega
    omega)
   have hb:kVa q ((p.length:Int),u,m)=some (.cont (((p.length+1:Nat):Int),u',m')):=by
    unfold kVa;dsimp only;rw[kna hx,zza hx];simp only[cond_true,Option.bind_some,hin,sc _ (show p.length < 9223372036854775807 by omega)]
   rw[zTa hb];have:=ih (p++ [e]) u' m' (by simp[hp]) (fun id d=>by
    rw[i1,h1,List.any_append];simp[Bool.or_comm]) (fun d=>by
    have e1:vxa (p++ [e]) d=vxa p d+(if uwP e d then 1 else 0):=by
     unfold vxa;rw[List.countP_append,List.countP_cons,List.countP_nil];simp
    rw[i2,h2,e1];split <;> simp)
   simpa using this
 exact key q.Entries [] [] [] rfl (fun id d=>by simp[mget]) (fun d=>by simp[mget,vxa])
section
section
variable {α:Type} (key:α->Int)
end
end
theorem zbb{α:Type}(L:List α)(n:Nat)(z:α)(h:n<=L.length):(clr0 L n z).take n=L.take n:=by
 unfold clr0;rw[List.take_append_of_le_length (by simp;omega),List.take_take,Nat.min_self]
theorem zcb{α:Type}(keep:α->Bool):∀(r:List α) (n:Nat) (j:Int),z7a (fun i x=>if !keep x then some ((i:Nat):Int) else none) n r=some j->∃m:Nat,j=((n+m:Nat):Int)/\∃x,r[m]? =some x/\keep x=false/\∀y∈r.take m,keep y=true:=by
 intro r;induction r with
 | nil=>intro n j hj;cases hj
 | cons y r ih=>
  intro n j hj;unfold z7a at hj;cases hy:keep y with
  | false=>rw[hy]at hj;simp at hj;exact ⟨0,by omega,y,rfl,hy,by simp⟩
  | true=>
   rw[hy]at hj;simp only[Bool.not_true,Bool.false_eq_true,if_false]at hj;obtain ⟨m,h1,x,h2,h3,h4⟩:=ih (n+1) j hj;refine ⟨m+1,by omega,x,by simpa using h2,h3,fun z hz=>?_⟩;rw[List.take_succ_cons]at hz;rcases List.mem_cons.1 hz with rfl | hz
   .exact hy
   exact h4 z hz
theorem del_eq{α:Type}(keep:α->Bool)(L:List α)(z:α)(hl:L.length<=1048576){b1:Int->Option (Step Int (Unit ⊕ Int))}{b2:Int × Int × List α->Option (Step (Int × Int × List α) (Int × List α))}
 (h10:b1 (L.length:Int)=some (.out (.inl ()))) (h11:∀(i:Nat) x,L[i]? =some x->b1 (i:Int)=some (bif keep x then .cont ((i+1:Nat):Int) else .out (.inr (i:Int))))
 (h20:∀i M,M.length=L.length->b2 (i,(L.length:Int),M)=some (.out (i,M)))
 (h21:∀(i k:Nat) (M:List α) x,M.length=L.length->M[k]? =some x->i < k->b2 ((i:Int),(k:Int),M)=some (.cont (bif keep x then (((i+1:Nat):Int),((k+1:Nat):Int),M.set i x) else ((i:Int),((k+1:Nat):Int),M)))):
 (((iter b1 0).bind (Sum.elim (fun b8=>some ((-1))) (fun b9=>some b9)):Option Int).bind fun (j6:Int)=>(bif (j6==(-1)) then some L else (iter b2 ((j6,(w64 (j6+1)),L))).bind fun b20=>(cut b20.2 b20.1 (b20.2.length:Int)).bind fun v33=>(cut ((clr0 b20.2 (Int.toNat b20.1) z)) 0 b20.1).bind fun v35=>some v35))=some (L.filter keep):=by
 have hl1:iter b1 0=some ((z7a (fun i x=>if !keep x then some ((i:Nat):Int) else none) 0 L).elim (.inl ()) .inr):=by
  refine kta L _ (Sum.inl ()) Sum.inr h10 ?_;intro i r hr;rw[h11 i r hr];cases keep r <;> rfl
 rw[hl1];simp only[Option.bind_some,Kia];cases hf:z7a (fun i x=>if !keep x then some ((i:Nat):Int) else none) 0 L with
 | none=>
  rw[q9a]at hf;have hall:L.filter keep=L:=by
   rw[List.filter_eq_self];intro x hx;obtain ⟨i,hi⟩:=List.mem_iff_getElem?.1 hx;have:=hf i x hi;cases hq:keep x with
   | true=>rfl
   | false=>rw[hq]at this;simp at this
  rw[hall];rfl
 | some j=>
  obtain ⟨j,rfl,x,hx,hxq,hbefore⟩:∃n:Nat,j=(n:Int)/\∃x,L[n]? =some x/\keep x=false/\∀y∈L.take n,keep y=true:=by
   obtain ⟨m,h1,h2⟩:=zcb keep L 0 j hf;exact ⟨m,by omega,h2⟩
  have hjl:=zIa hx;have hne:(((j:Nat):Int)== -1)=false:=by rw[beq_eq_false_iff_ne];omega
  simp only[Option.getD_some,hne,cond_false,sc j (by omega)];have hdl:∀(r:List α) (i k:Nat) (M:List α),M.length=L.length->M.drop k=r->i < k->k<=M.length->∃L',iter b2 ((i:Int),(k:Int),M)=some (((i+(r.filter keep).length:Nat):Int),L')/\L'.length=L.length/\L'.take (i+(r.filter keep).length)=M.take i++r.filter keep:=by
   intro r;induction r with
   | nil=>
    intro i k M hM hd hik hk;have hkl:k=M.length:=by
     have:=congrArg List.length hd;simp at this;omega
    refine ⟨M,?_,hM,by simp⟩;rw[hkl,hM];simpa using zKa (h20 i M hM)
   | cons y r ih=>
    intro i k M hM hd hik hk;have hlt:k < M.length:=by
     have:=congrArg List.length hd;simp at this;omega
    have hy:M[k]? =some y:=by
     have:=List.getElem?_drop (xs:=M) (i:=k) (j:=0);rw[hd]at this;simpa using this.symm
    have hd' :M.drop (k+1)=r:=by
     have:=congrArg (List.drop 1) hd;simpa[List.drop_drop,Nat.add_comm]using this
    have hs:=h21 i k M y hM hy hik;cases hq:keep y with
    | false=>
     rw[hq,cond_false]at hs;obtain ⟨L',q1,q2,q3⟩:=ih i (k+1) M hM hd' (by omega) (by omega);refine ⟨L',(zTa hs).trans ?_,q2,?_⟩
     .simpa[hq]using q1
     simpa[hq]using q3
    | true=>
     rw[hq,cond_true]at hs;have hdr:(M.set i y).drop (k+1)=r:=by
      rw[List.drop_set_of_lt (by omega)];exact hd'
     obtain ⟨L',q1,q2,q3⟩:=ih (i+1) (k+1) (M.set i y) (by simpa using hM) hdr (by omega) (by simp;omega);have hfl:((y::r).filter keep)=y::r.filter keep:=by simp[hq]
     refine ⟨L',(zTa hs).trans ?_,q2,?_⟩
     .rw[hfl,q1];simp only[List.length_cons];congr 2;omega
     rw[hfl];have e:i+(y::r.filter keep).length=i+1+(r.filter keep).length:=by simp;omega
     rw[e,q3];have:(M.set i y).take (i+1)=M.take i++ [y]:=by
      rw[List.take_add_one];have h5:(M.set i y)[i]? =some y:=List.getElem?_set_self (by omega);rw[h5,List.take_set_of_le (Nat.le_refl _)];rfl
     rw[this];simp
  obtain ⟨L',q1,q2,q3⟩:=hdl (L.drop (j+1)) j (j+1) L rfl rfl (by omega) (by omega);rw[q1];simp only[Option.bind_some];have hfil:L.filter keep=L.take j++(L.drop (j+1)).filter keep:=by
   conv=>lhs;rw[<-List.take_append_drop j L,List.filter_append]
   have h5:(L.take j).filter keep=L.take j:=List.filter_eq_self.2 hbefore;have h6:L.drop j=x::L.drop (j+1):=by
    rw[List.drop_eq_getElem_cons hjl]
    congr 1
    rw[List.getElem?_eq_getElem hjl]at hx;exact Option.some.inj hx
   rw[h5,h6,List.filter_cons,hxq];simp
  have hlen:j+((L.drop (j+1)).filter keep).length<=L'.length:=by
   rw[q2];have:=List.length_filter_le keep (L.drop (j+1));simp at this;omega
  rw[Wza hlen];simp only[Option.bind_some,Int.toNat_natCast];rw[WAa (by unfold clr0;simp;omega),zbb _ _ _ hlen,q3,hfil];rfl
def Z7a(q:zpa)(e:zba)(out:List zha)(d:Str):List zha:=if !uwP e d && decide (vxa q.Entries d+out.countP (fun a=>a.Domain==d) < 2) then out++ [⟨e.Id,d,qZa d 0 e.To⟩] else out
def attE(q:zpa)(out:List zha)(e:zba):List zha:=(yWa [] e.To).foldl (Z7a q e) out
def dueP(q:zpa)(now:Int):List zba:=q.Entries.filter fun e=> !decide (now < e.Due)
def readyP(q:zpa)(now:Int):List zha:=(wNa (dueP q now)).foldl (attE q) []
def kDb(q:zpa)(now:Int):List zha × zra:=if (queF q).Code !=0 then ([],queF q) else if !yla now then ([],⟨3, -7⟩) else (readyP q now,⟨0,0⟩)
theorem WNa(q:zpa)(e:zba)(out:List zha)(d:Str):(Z7a q e out d).length<=out.length+1:=by unfold Z7a;split <;> simp
theorem jya(q:zpa)(e:zba):∀(D:List Str) (out:List zha),(D.foldl (Z7a q e) out).length<=out.length+D.length
 | [],out=>by simp
 | d::D,out=>by
  have:=jya q e D (Z7a q e out d);have:=WNa q e out d;simp only[List.foldl_cons,List.length_cons];omega
theorem WOa:∀{l:List zba},l.Pairwise (fun a b=>a.Id < b.Id)->Qka l=true
 | [],_=>rfl
 | x::l,h=>by
  obtain ⟨h1,h2⟩:=List.pairwise_cons.1 h;unfold Qka;rw[Bool.and_eq_true,List.all_eq_true];refine ⟨fun y hy=>?_,WOa h2⟩;have:=h1 y hy;rw[Bool.or_eq_true,ZJa,ZJa];omega
def dk(e:zba):Int:=e.Due
theorem QXa:∀{l:List zba},l.Pairwise (fun a b=>a.Id < b.Id)->∀x∈l,∀y∈l,x.Id=y.Id->x=y
 | [],_,x,hx,_,_,_=>by cases hx
 | a::l,h,x,hx,y,hy,he=>by
  obtain ⟨h1,h2⟩:=List.pairwise_cons.1 h;rcases List.mem_cons.1 hx with rfl | hx' <;> rcases List.mem_cons.1 hy with rfl | hy'
  .rfl
  .have:=h1 y hy';omega
  .have:=h1 x hx';omega
  exact QXa h2 x hx' y hy' he
theorem WPa{K V:Type}[BEq K]:∀(m:List (K × V)) (k:K),(mpos m k).isNone=(mget m k).isNone
 | [],_=>rfl
 | (k',v)::m,k=>by
  unfold mpos mget;split
  .rfl
  rw[Option.isNone_map,WPa m k]
theorem ZKa(d:Str)(p:List zda)(w:zda):qZa d 0 (p++ [w])=qZa d 0 p++(if opnW w && wDom w==d then [(p.length:Int)] else []):=by
 rw[ZYa,Nat.zero_add];simp only[qZa]
theorem doms_eq(e:zba)(h:yna e.To):∃M,iter (kWa e) (0,([]:List (Str × List Int)),([]:List Str))=some (M,yWa [] e.To)/\∀d,mget M d=if qZa d 0 e.To=[] then none else some (qZa d 0 e.To):=by
 have h0:=h.1;have key:∀r p M D,e.To=p++r->(∀d,mget M d=if qZa d 0 p=[] then none else some (qZa d 0 p))->(∀d,D.contains d= !(qZa d 0 p).isEmpty)->D.length<=p.length->D++yWa D r=yWa [] e.To->
  ∃M2,iter (kWa e) ((p.length:Int),M,D)=some (M2,yWa [] e.To)/\∀d,mget M2 d=if qZa d 0 e.To=[] then none else some (qZa d 0 e.To):=by
  intro r;induction r with
  | nil=>
   intro p M D hp h1 h2 h3 h4;have hp' :e.To=p:=by simpa using hp
   have hD:D=yWa [] e.To:=by simpa[yWa]using h4
   refine ⟨M,zKa ?_,by rw[hp'];exact h1⟩;unfold kWa;dsimp only;rw[<-hp',zPa,hD];rfl
  | cons w r ih=>
   intro p M D hp h1 h2 h3 h4;have hx:e.To[p.length]? =some w:=by rw[hp];simp
   have hlt:=zIa hx;have hop:(qZa (wDom w) 0 p).length<=p.length:=WLa _ _ _;have hnone:(mpos M (wDom w)).isNone= !D.contains (wDom w):=by
    rw[WPa,h1,h2];cases hz:qZa (wDom w) 0 p <;> simp
   have hget:(mget M (wDom w)).getD []=qZa (wDom w) 0 p:=by
    rw[h1];split
    .rename_i hz;rw[hz];rfl
    rfl
   have hb:kWa e ((p.length:Int),M,D)=some (.cont (((p.length+1:Nat):Int),if opnW w then mput M (wDom w) (qZa (wDom w) 0 p++ [(p.length:Int)]) else M,if opnW w && !D.contains (wDom w) then D++ [wDom w] else D)):=by
    unfold kWa;dsimp only;rw[kna hx,zza hx];simp only[cond_true,Option.bind_some,sc _ (show p.length < 9223372036854775807 by omega)];cases ho:opnW w with
    | false=>
     have:(w.Result !=0)=true:=by unfold opnW at ho;rw[bne,ho];rfl
     rw[this];rfl
    | true=>
     have:(w.Result !=0)=false:=by unfold opnW at ho;rw[bne,ho];rfl
     rw[this];simp only[cond_false,Option.bind_some,wza _ (h.2 w (List.mem_of_getElem? hx))];rw[show mpos M (VNa w.Recipient.Address)=mpos M (wDom w) from rfl,show mget M (VNa w.Recipient.Address)=mget M (wDom w) from rfl,hnone,hget];rw[wxa (l:=qZa (wDom w) 0 p) (by simp;omega)];have hnn:QCa (qZa (wDom w) 0 p++ [(p.length:Int)])=some true:=by unfold QCa;simp
     cases hc:D.contains (wDom w) with
     | true=>simp only[Bool.not_true,cond_false,Option.bind_some,hnn];rfl
     | false=>
      rw[wxa (by simp;omega)];simp only[Bool.not_false,cond_true,Option.bind_some,hnn];rfl
   rw[zTa hb];have hsn:=ZKa;have:=ih (p++ [w]) (if opnW w then mput M (wDom w) (qZa (wDom w) 0 p++ [(p.length:Int)]) else M) (if opnW w && !D.contains (wDom w) then D++ [wDom w] else D) (by simp[hp]) (fun d=>by
    rw[ZKa];cases ho:opnW w with
    | false=>simp[h1]
    | true=>
     rw[if_pos rfl,jfa];by_cases hd:wDom w=d
     .subst hd;simp
     have:(wDom w==d)=false:=beq_eq_false_iff_ne.2 hd;simp[this,h1]) (fun d=>by
    rw[ZKa];cases ho:opnW w with
    | false=>simp only[Bool.false_and,Bool.false_eq_true,if_false,List.append_nil];exact h2 d
    | true=>
     simp only[Bool.true_and];by_cases hd:wDom w=d
     .subst hd;simp only[beq_self_eq_true,if_true];cases hc:D.contains (wDom w) with
      | true=>simp only[Bool.not_true,Bool.false_eq_true,if_false];rw[hc];simp
      | false=>simp only[Bool.not_false,if_true];simp
     have hd' :(wDom w==d)=false:=beq_eq_false_iff_ne.2 hd;rw[hd'];simp only[Bool.false_eq_true,if_false,List.append_nil];rw[<-h2 d];cases hc:D.contains (wDom w) with
     | true=>simp only[Bool.not_true,Bool.false_eq_true,if_false]
     | false=>simp only[Bool.not_false,if_true];simp[Ne.symm hd]) (by
    split
    .simp;omega
    .simp;omega) (by
    rw[<-h4]
    conv=>rhs;unfold yWa
    split
    .simp
    rfl)
   simpa using this
 exact key e.To [] [] [] rfl (fun d=>by simp[qZa,mget]) (fun d=>by simp[qZa]) (Nat.le_refl _) rfl
theorem step_eq(q:zpa)(e:zba)(u:List ((Int × Str) × Bool))(m0:List (Str × Int))(M:List (Str × List Int))(hu:∀d,(mget u (e.Id,d)).getD false=uwP e d)(hM:∀d,mget M d=if qZa d 0 e.To=[] then none else some (qZa d 0 e.To))(hn:q.Entries.length<=20):
 ∀(r p:List Str) (D:List Str) (out:List zha) (m:List (Str × Int)),D=p++r->(∀d,(mget m d).getD 0=(vxa q.Entries d+out.countP (fun a=>a.Domain==d):Nat))->out.length+r.length<=33554432->D.length<=1048576->
  ∃m2,iter (kXa (u,m0) e (M,D)) ((p.length:Int),out,m)=some (r.foldl (Z7a q e) out,m2)/\∀d,(mget m2 d).getD 0=(vxa q.Entries d+(r.foldl (Z7a q e) out).countP (fun a=>a.Domain==d):Nat):=by
 intro r;induction r with
 | nil=>
  intro p D out m hp h1 h2 h3;have hp' :D=p:=by simpa using hp
  refine ⟨m,zKa ?_,h1⟩;unfold kXa;dsimp only;rw[<-hp',zPa];rfl
 | cons d r ih=>
  intro p D out m hp h1 h2 h3;have hx:D[p.length]? =some d:=by rw[hp];simp
  have hlt:=zIa hx;simp only[List.length_cons]at h2;have hbn:=WMa q.Entries d;have hcn:out.countP (fun a=>a.Domain==d)<=out.length:=List.countP_le_length;have hMd:(mget M d).getD []=qZa d 0 e.To:=by
   rw[hM];split
   .rename_i hz;rw[hz];rfl
   rfl
  have hdec:decide ((((vxa q.Entries d+out.countP (fun a=>a.Domain==d):Nat):Int)) < 2)=decide (vxa q.Entries d+out.countP (fun a=>a.Domain==d) < 2):=by congr 1;apply propext;omega
  have hb:kXa (u,m0) e (M,D) ((p.length:Int),out,m)=some (.cont (((p.length+1:Nat):Int),Z7a q e out d,if !uwP e d && decide (vxa q.Entries d+out.countP (fun a=>a.Domain==d) < 2) then mput m d (((vxa q.Entries d+out.countP (fun a=>a.Domain==d):Nat):Int)+1) else m)):=by
   unfold kXa Z7a;dsimp only;rw[kna hx,zza hx];simp only[cond_true,Option.bind_some,hu,h1,hMd,hdec,sc _ (show p.length < 9223372036854775807 by omega)];rw[wxa (by simp;omega),wRa (by omega) (by omega)];cases uwP e d <;> cases decide (vxa q.Entries d+out.countP (fun a=>a.Domain==d) < 2) <;> rfl
  rw[zTa hb];have hsl:=WNa q e out d;have:=ih (p++ [d]) D (Z7a q e out d) (if !uwP e d && decide (vxa q.Entries d+out.countP (fun a=>a.Domain==d) < 2) then mput m d (((vxa q.Entries d+out.countP (fun a=>a.Domain==d):Nat):Int)+1) else m) (by simp[hp]) (fun d' =>by
   unfold Z7a;cases hc: !uwP e d && decide (vxa q.Entries d+out.countP (fun a=>a.Domain==d) < 2) with
   | false=>simp only[Bool.false_eq_true,if_false];exact h1 d'
   | true=>
    rw[if_pos rfl,if_pos rfl,jfa,List.countP_append,List.countP_cons,List.countP_nil];by_cases hd:d=d'
    .subst hd;simp;omega
    have:(d==d')=false:=beq_eq_false_iff_ne.2 hd;rw[this];simp only[Bool.false_eq_true,if_false,h1];simp) (by omega) h3
  simpa using this
theorem zdb(q:zpa)(u:List ((Int × Str) × Bool))(m0:List (Str × Int))(S:List zba)(hS:∀e∈S,yna e.To/\∀d,(mget u (e.Id,d)).getD false=uwP e d)(hn:q.Entries.length<=20)(hl:S.length<=20):
 ∀(r p:List zba) (out:List zha) (m:List (Str × Int)),S=p++r->(∀d,(mget m d).getD 0=(vxa q.Entries d+out.countP (fun a=>a.Domain==d):Nat))->out.length<=p.length * 1048576->
  iter (kYa S (u,m0)) ((p.length:Int),out,m)=some (r.foldl (attE q) out):=by
 intro r;induction r with
 | nil=>
  intro p out m hp h1 h2;have hp' :S=p:=by simpa using hp
  refine zKa ?_;unfold kYa;dsimp only;rw[<-hp',zPa];rfl
 | cons e r ih=>
  intro p out m hp h1 h2;have hx:S[p.length]? =some e:=by rw[hp];simp
  have hlt:=zIa hx;obtain ⟨s1,s2⟩:=hS e (List.mem_of_getElem? hx);obtain ⟨M,hM,hMd⟩:=doms_eq e s1;have hdl:=kBb e.To [];have hto:=s1.1;have hb2:p.length * 1048576<=20 * 1048576:=Nat.mul_le_mul_right _ (by omega);obtain ⟨m2,hm2,hm3⟩:=step_eq q e u m0 M s2 hMd hn (yWa [] e.To) [] (yWa [] e.To) out m rfl h1 (by omega) (by omega);have hb:kYa S (u,m0) ((p.length:Int),out,m)=some (.cont (((p.length+1:Nat):Int),attE q out e,m2)):=by
   unfold kYa;dsimp only;rw[kna hx,zza hx];simp only[cond_true,Option.bind_some,hM];rw[show iter (kXa (u,m0) e (M,yWa [] e.To)) (0,out,m)=some ((yWa [] e.To).foldl (Z7a q e) out,m2) from hm2];simp only[Option.bind_some,sc _ (show p.length < 9223372036854775807 by omega)];rfl
  rw[zTa hb];have hfl:=jya q e (yWa [] e.To) out;have:=ih (p++ [e]) (attE q out e) m2 (by simp[hp]) hm3 (by unfold attE;simp only[List.length_append,List.length_singleton];omega);simpa using this
def ZLa(q:zpa):Prop:=∀e∈q.Entries,yna e.To
theorem Qna(q:zpa)(now:Int)(hq:vAa q)(hw:ZLa q):wwa q now=some (kDb q now):=by
 unfold wwa kDb;rw[vGa q hq];simp only[Option.bind_some,kca,zGa,kra,vta];by_cases hc:(queF q).Code=0
 .obtain ⟨ok,hF⟩:=jPa hc;have h1:((queF q).Code !=0)=false:=by simp[hc]
  have hn:=ok.n;rw[h1];simp only[cond_false,Bool.false_eq_true,if_false];show (bif !yla now then _ else _)=_;cases yla now with
  | false=>rfl
  | true=>
   simp only[Bool.not_true,cond_false,Bool.false_eq_true,if_false];rw[wxa (by simp;omega)];simp only[List.nil_append,Option.bind_some];rw[Wda _ _ _ (fun he=>by rw[List.isEmpty_iff.1 he])];simp only[Option.bind_some];have hdel:=del_eq (fun e:zba=> !decide (now < e.Due)) q.Entries (zba.mk 0 ((kua.mk ((zya.mk (([]:Str)) ([]) (([]:Str)))) ((zAa.mk ([]) ([]))))) 0 0 0 ([])) (by omega) (b1:=qXa now q.Entries) (b2:=qYa now) (by unfold qXa;rw[zPa];rfl) (fun i x hx=>by
    have hi:=zIa hx;unfold qXa;rw[kna hx,zza hx];simp only[cond_true,Option.bind_some,sc i (by omega)];cases decide (now < x.Due) <;> rfl) (fun i M hM=>by
    unfold qYa;dsimp only;rw[<-hM,zPa];rfl) (fun i k M x hM hx hik=>by
    have hi:=zIa hx;have hii:M[i]? =some (M[i]'(by omega)):=List.getElem?_eq_getElem (by omega);unfold qYa;dsimp only;rw[kna hx,zza hx,zza hii];simp only[cond_true,Option.bind_some,sc i (by omega),sc k (by omega)];cases decide (now < x.Due) <;> simp)
   rw[hdel];simp only[Option.bind_some];have hids:(dueP q now).Pairwise (fun a b=>a.Id < b.Id):=ok.ids.filter _;have hdl:(dueP q now).length<=q.Entries.length:=List.length_filter_le _ _;have hsort:zwa (dueP q now)=some (wNa (dueP q now)):=by
    unfold zwa;rw[WOa hids,decide_eq_true (show (dueP q now).length<=1048576 by omega)];rfl
   show ((zwa (dueP q now)).bind _)=_;rw[hsort];simp only[Option.bind_some];obtain ⟨u,m,hbz,hu,hm⟩:=kCb q hn hw ok.ids;rw[hbz];simp only[Option.bind_some];have hSl:(wNa (dueP q now)).length=(dueP q now).length:=(w5a _).length_eq;have hloop:=zdb q u m (wNa (dueP q now)) (fun e he=>by
    have he2:e∈q.Entries:=(List.mem_filter.1 ((w5a _).mem_iff.1 he)).1;refine ⟨hw e he2,fun d=>?_⟩;rw[hu,Bool.eq_iff_iff,List.any_eq_true];constructor
    .rintro ⟨x,hx,hxe⟩;simp at hxe;have:x=e:=QXa ok.ids x hx e he2 hxe.1.symm;rw[<-this];exact hxe.2
    intro h;exact ⟨e,he2,by simp[h]⟩) hn (by omega) (wNa (dueP q now)) [] [] m rfl (fun d=>by rw[hm];simp) (by simp)
   rw[show iter (kYa (wNa (dueP q now)) (u,m)) (0,([]:List zha),m)=some ((wNa (dueP q now)).foldl (attE q) []) from hloop];rfl
 have h1:((queF q).Code !=0)=true:=by simpa using hc
 rw[h1];rfl
def posI(l:List zba)(id:Int):Int:=(z7a (fun i x=>if x.Id==id then some ((i:Nat):Int) else none) 0 l).getD (-1)
theorem YSa(l:List zba)(id:Int):(posI l id= -1/\∀x∈l,x.Id≠id)∨∃(n:Nat) (x:zba),posI l id=(n:Int)/\l[n]? =some x/\x.Id=id:=by
 unfold posI;cases hf:z7a (fun i x=>if x.Id==id then some ((i:Nat):Int) else none) 0 l with
 | none=>
  left;refine ⟨rfl,fun x hx he=>?_⟩;rw[q9a]at hf;obtain ⟨i,hi⟩:=List.mem_iff_getElem?.1 hx;have:=hf i x hi;simp[he]at this
 | some z=>
  right;obtain ⟨i,x,h1,h2⟩:=jLa hf;by_cases he:x.Id=id
  .simp[he]at h2;exact ⟨i,x,by simp[<-h2],h1,he⟩
  simp[he]at h2
def toR(e:zba)(dom:Str)(on:Bool):Nat->Int->List Int->Option zra
 | _,_,[]=>none
 | i,last,k::r=>if decide (k<=last) || decide ((e.To.length:Int)<=k) then some ⟨3,i⟩ else match e.To[k.toNat]? with
  | none=>none
  | some w=>if wDom w !=dom then some ⟨5,i⟩ else if w.Result !=0 || w.Busy !=on then some ⟨8,i⟩ else toR e dom on (i+1) k r
def attP(q:zpa)(a:zha)(on:Bool):Int × zra:=
 if posI q.Entries a.Entry= -1 then (0,⟨6, -3⟩) else match q.Entries[(posI q.Entries a.Entry).toNat]? with
  | none=>(0,⟨6, -3⟩)
  | some e=>if a.To.length=0∨e.To.length < a.To.length then (0,⟨2, -4⟩) else match toR e a.Domain on 0 (-1) a.To with
   | some f=>(0,f)
   | none=>(posI q.Entries a.Entry,⟨0,0⟩)
theorem att_loop(e:zba)(a:zha)(on:Bool)(he:yna e.To)(hl:a.To.length<=1048576):∀(r p:List Int) (last:Int),a.To=p++r->(p=[]/\last= -1∨0<=last/\∃p',p=p' ++ [last])->
 iter (kha a on e) (p.length:Int)=some (match toR e a.Domain on p.length last r with | some f=>.inr (0,f) | none=>.inl ()):=by
 intro r;have h0:=he.1;induction r with
 | nil=>
  intro p last hp hc;have hp' :a.To=p:=by simpa using hp
  refine zKa ?_;unfold kha;rw[<-hp',zPa];rfl
 | cons k r ih=>
  intro p last hp hc;have hx:a.To[p.length]? =some k:=by rw[hp];simp
  have hlt:=zIa hx;have hcond:((bif decide (k < 0) then some true else (bif decide ((e.To.length:Int)<=k) then some true else (bif decide (0 < (p.length:Int)) then (idx a.To ((w64 ((p.length:Int) - 1)))).bind fun v38=>some (decide (k<=v38)) else some false))):Option Bool)=some (decide (k<=last) || decide ((e.To.length:Int)<=k)):=by
   rcases hc with ⟨rfl,rfl⟩ | ⟨hl0,p',rfl⟩
   .have:decide (k < 0)=decide (k<= -1):=by congr 1;apply propext;omega
    rw[this];simp only[List.length_nil];cases decide (k<= -1) <;> cases decide ((e.To.length:Int)<=k) <;> rfl
   have h1:decide (0 < (((p' ++ [last]).length:Nat):Int))=true:=decide_eq_true (by rw[List.length_append,List.length_singleton];omega);have h2:idx a.To ((w64 (((p' ++ [last]).length:Int) - 1)))=some last:=by
    rw[show (((p' ++ [last]).length:Int) - 1)=(p'.length:Int) by simp,khb _ (by simp at hlt;omega)];rw[KPa,hp];simp
   rw[h1,h2];simp only[cond_true,Option.bind_some];by_cases hk:k < 0
   .rw[decide_eq_true hk,decide_eq_true (show k<=last by omega)];rfl
   rw[decide_eq_false hk];cases decide ((e.To.length:Int)<=k) <;> cases decide (k<=last) <;> rfl
  unfold toR;cases hq:decide (k<=last) || decide ((e.To.length:Int)<=k) with
  | true=>
   rw[if_pos rfl];refine zKa ?_;unfold kha;rw[kna hx,zza hx];simp only[cond_true,Option.bind_some];rw[hcond,hq];rfl
  | false=>
   rw[if_neg (by decide)];simp at hq;have hlast: -1<=last:=by rcases hc with ⟨_,rfl⟩ | ⟨h,_⟩ <;> omega
   obtain ⟨kn,rfl⟩:∃kn:Nat,k=(kn:Int):=⟨k.toNat,by omega⟩;have hkl:kn < e.To.length:=by omega
   have hw:e.To[kn]? =some e.To[kn]:=List.getElem?_eq_getElem hkl;generalize e.To[kn]=w at hw;have hmem:=List.mem_of_getElem? hw;have hqf:(decide ((kn:Int)<=last) || decide ((e.To.length:Int)<=(kn:Int)))=false:=by simp;omega
   have hb:kha a on e (p.length:Int)=some (if wDom w !=a.Domain then .out (.inr (0,⟨5,p.length⟩)) else if w.Result !=0 || w.Busy !=on then .out (.inr (0,⟨8,p.length⟩)) else .cont ((p.length+1:Nat):Int)):=by
    unfold kha;rw[kna hx,zza hx];simp only[cond_true,Option.bind_some];rw[hcond,hqf];simp only[Option.bind_some,cond_false,zza hw,wza _ (he.2 w hmem),zGa,sc _ (show p.length < 9223372036854775807 by omega)];show _=some (if wDom w !=a.Domain then _ else _);unfold wDom;cases (VNa w.Recipient.Address !=a.Domain) <;> cases (w.Result !=0) <;> cases (w.Busy !=on) <;> rfl
   simp only[Int.toNat_natCast,hw];cases h1:wDom w !=a.Domain with
   | true=>rw[h1]at hb;rw[zKa hb];rfl
   | false=>
    rw[h1]at hb;cases h2:w.Result !=0 || w.Busy !=on with
    | true=>rw[h2]at hb;rw[zKa hb];rfl
    | false=>
     rw[h2]at hb;simp only[Bool.false_eq_true,if_false]at hb ⊢;rw[zTa hb];have:=ih (p++ [(kn:Int)]) (kn:Int) (by simp[hp]) (.inr ⟨by omega,p,rfl⟩);simpa using this
theorem ywa(q:zpa)(a:zha)(on:Bool)(hq:vAa q)(hw:ZLa q)(hl:a.To.length<=1048576):qMa q a on=some (if (queF q).Code !=0 then (0,queF q) else attP q a on):=by
 unfold qMa attP;rw[vGa q hq];simp only[Option.bind_some,kca,zGa,kra];by_cases hc:(queF q).Code=0
 .obtain ⟨ok,hF⟩:=jPa hc;have hn:=ok.n;have h1:((queF q).Code !=0)=false:=by simp[hc]
  rw[h1];simp only[cond_false,Bool.false_eq_true,if_false];have hpos:((iter (qpa q a) 0).bind (Sum.elim (fun b8=>some ((-1))) (fun b9=>some b9)):Option Int)=some (posI q.Entries a.Entry):=by
   rw[kta q.Entries (fun i x=>if x.Id==a.Entry then some ((i:Nat):Int) else none) (.inl ()) .inr]
   .simp only[Option.bind_some,Kia];rfl
   .unfold qpa;rw[zPa];rfl
   intro i x hx;have hi:=zIa hx;unfold qpa;rw[kna hx,zza hx];simp only[cond_true,Option.bind_some,sc i (by omega)];cases x.Id==a.Entry <;> rfl
  rw[hpos];simp only[Option.bind_some];rcases YSa q.Entries a.Entry with ⟨h2,_⟩ | ⟨n,e,h2,h3,h4⟩
  .rw[h2];rfl
  rw[h2];have hlt:=zIa h3;rw[decide_eq_false (show ¬((n:Int) < 0) by omega),if_neg (by omega),zza h3];simp only[cond_false,Option.bind_some,Int.toNat_natCast,h3];have e1:((bif ((a.To.length:Int)==0) then some true else some (decide ((e.To.length:Int) < (a.To.length:Int)))):Option Bool)=some (decide (a.To.length=0∨e.To.length < a.To.length)):=by
   by_cases h0:a.To.length=0
   .rw[h0];simp
   rw[show ((a.To.length:Int)==0)=false by rw[beq_eq_false_iff_ne];omega];simp only[cond_false,Option.some.injEq]
   congr 1;apply propext;omega
  rw[e1];simp only[Option.bind_some];by_cases h5:a.To.length=0∨e.To.length < a.To.length
  .rw[decide_eq_true h5,if_pos h5];rfl
  rw[decide_eq_false h5,if_neg h5];simp only[cond_false];have:=att_loop e a on (hw e (List.mem_of_getElem? h3)) hl a.To [] (-1) rfl (.inl ⟨rfl,rfl⟩);rw[show iter (kha a on e) 0=_ from this];simp only[List.length_nil];cases toR e a.Domain on 0 (-1) a.To <;> rfl
 have h1:((queF q).Code !=0)=true:=by simpa using hc
 rw[h1];rfl
def wTo(e:zba)(T:List zda):zba:=⟨e.Id,e.Mail,e.Since,e.Tries,e.Due,T⟩
def onK(T:List zda)(k:Int):List zda:=match T[k.toNat]? with
 | some w=>T.set k.toNat ⟨w.Recipient,w.Result,true⟩
 | none=>T
theorem VPa(T:List zda)(k:Int):(onK T k).length=T.length:=by unfold onK;split <;> simp
theorem Jha(e:zba)(dom:Str)(on:Bool):∀(ks:List Int) (i:Nat) (last:Int) (f:zra),toR e dom on i last ks=some f->f.Code≠0
 | [],_,_,_,h=>by cases h
 | k::ks,i,last,f,h=>by
  unfold toR at h;split at h
  .cases h;simp
  split at h
  .cases h
  split at h
  .cases h;simp
  split at h
  .cases h;simp
  exact Jha e dom on ks _ _ _ h
theorem jga(e:zba)(dom:Str)(on:Bool):∀(ks:List Int) (i:Nat) (last:Int), -1<=last->toR e dom on i last ks=none->∀k∈ks,last < k/\k < (e.To.length:Int)/\∃w,e.To[k.toNat]? =some w/\wDom w=dom/\w.Result=0/\w.Busy=on
 | [],_,_,_,_,k,hk=>by cases hk
 | k::ks,i,last,hl,h,x,hx=>by
  unfold toR at h;split at h
  .cases h
  rename_i h1;simp at h1;have hkl:k.toNat < e.To.length:=by omega
  rw[List.getElem?_eq_getElem hkl]at h;generalize hw:e.To[k.toNat]=w at h;dsimp only at h;split at h
  .cases h
  rename_i h2;split at h
  .cases h
  rename_i h3;simp at h2 h3;rcases List.mem_cons.1 hx with rfl | hx
  .exact ⟨by omega,by omega,w,by rw[List.getElem?_eq_getElem hkl,hw],h2,h3.1,h3.2⟩
  obtain ⟨a,b,c⟩:=jga e dom on ks _ k (by omega) h x hx;exact ⟨by omega,b,c⟩
theorem K1a{q:zpa}{a:zha}{on:Bool}(h:(attP q a on).2.Code=0):∃(n:Nat) (e:zba),attP q a on=((n:Int),⟨0,0⟩)/\q.Entries[n]? =some e/\e.Id=a.Entry/\toR e a.Domain on 0 (-1) a.To=none/\1<=a.To.length/\a.To.length<=e.To.length:=by
 unfold attP at h ⊢;rcases YSa q.Entries a.Entry with ⟨h2,_⟩ | ⟨n,e,h2,h3,h4⟩
 .rw[h2]at h;simp at h
 rw[h2]at h ⊢;rw[if_neg (by omega)]at h ⊢;simp only[Int.toNat_natCast,h3]at h ⊢;by_cases h5:a.To.length=0∨e.To.length < a.To.length
 .rw[if_pos h5]at h;simp at h
 rw[if_neg h5]at h ⊢;cases ht:toR e a.Domain on 0 (-1) a.To with
 | some f=>rw[ht]at h;exact absurd h (Jha _ _ _ _ _ _ _ ht)
 | none=>exact ⟨n,e,rfl,h3,h4,ht,by omega,by omega⟩
def WQa(L:List zba)(n:Nat)(ks:List Int):List zba:=match L[n]? with
 | some e=>L.set n (wTo e (ks.foldl onK e.To))
 | none=>L
def v4a(q:zpa)(a:zha):zpa × zra:=
 if (queF q).Code !=0 then (⟨[],0⟩,queF q) else if (attP q a false).2.Code !=0 then (⟨[],0⟩,(attP q a false).2) else
 if decide (2<=vxa q.Entries a.Domain) || uwP ((q.Entries[(attP q a false).1.toNat]?).getD ⟨0,⟨⟨[],[],[]⟩,⟨[],[]⟩⟩,0,0,0,[]⟩) a.Domain then (⟨[],0⟩,⟨8, -5⟩) else (⟨WQa q.Entries (attP q a false).1.toNat a.To,q.Next⟩,⟨0,0⟩)
theorem yXa{L:List zba}{n:Nat}(hn:n < L.length)(x:zba):idx (L.set n x) (n:Int)=some x:=zza (by simp[hn])
theorem zeb{a:zha}{f:zra}{L:List zba}{n:Nat}{e:zba}(he:L[n]? =some e)(hl:a.To.length<=1048576)(hk:∀k∈a.To,0<=k/\k < (e.To.length:Int))
 {body:Int × List zba->Option (Step (Int × List zba) (List zba))} (hb:body=vqa a ((n:Int),f) (L,L.length)∨body=jKa a ((n:Int),f) (L,L.length)):
 iter body (0,L)=some (L.set n (wTo e (a.To.foldl onK e.To))):=by
 have hn:=zIa he;have key:∀(r p:List Int) (T:List zda),a.To=p++r->T.length=e.To.length->iter body ((p.length:Int),L.set n (wTo e T))=some (L.set n (wTo e (r.foldl onK T))):=by
  intro r;induction r with
  | nil=>
   intro p T hp hT;have hp' :a.To=p:=by simpa using hp
   refine zKa ?_;rcases hb with rfl | rfl
   .unfold vqa;dsimp only;rw[<-hp',zPa];rfl
   unfold jKa;dsimp only;rw[<-hp',zPa];rfl
  | cons k r ih=>
   intro p T hp hT;have hx:a.To[p.length]? =some k:=by rw[hp];simp
   have hlt:=zIa hx;obtain ⟨k0,k1⟩:=hk k (List.mem_of_getElem? hx);obtain ⟨kn,rfl⟩:∃kn:Nat,k=(kn:Int):=⟨k.toNat,by omega⟩;have hkT:T[kn]? =some (T[kn]'(by omega)):=List.getElem?_eq_getElem (by omega);generalize T[kn]'(by omega)=w at hkT;have hon:onK T (kn:Int)=T.set kn ⟨w.Recipient,w.Result,true⟩:=by unfold onK;simp only[Int.toNat_natCast,hkT]
   have hnown:nown L.length (n:Int)=some true:=by unfold nown;rw[if_pos (by simpa using hn)]
   have hw:idx (wTo e T).To (kn:Int)=some w:=zza hkT;have hc:body ((p.length:Int),L.set n (wTo e T))=some (.cont (((p.length+1:Nat):Int),L.set n (wTo e (onK T (kn:Int))))):=by
    rcases hb with rfl | rfl
    .unfold vqa;dsimp only;rw[kna hx,zza hx];simp only[cond_true,Option.bind_some,yXa hn,hnown,hw,sc _ (show p.length < 9223372036854775807 by omega),Int.toNat_natCast,List.set_set,hon];rfl
    unfold jKa;dsimp only;rw[kna hx,zza hx];simp only[cond_true,Option.bind_some,yXa hn,hnown,hw,sc _ (show p.length < 9223372036854775807 by omega),Int.toNat_natCast,List.set_set,hon];rfl
   rw[zTa hc];have:=ih (p++ [(kn:Int)]) (onK T (kn:Int)) (by simp[hp]) (by rw[VPa,hT]);simpa using this
 have h0:L.set n (wTo e e.To)=L:=Kka he;have:=key a.To [] e.To rfl rfl;rw[h0]at this;exact this
theorem QYa{q:zpa}(hq:vAa q)(ok:QueOk q):kzb q.Entries:=⟨hq.1,hq.2⟩
theorem Zma(q:zpa)(a:zha)(hq:vAa q)(hw:ZLa q)(hl:a.To.length<=1048576):wfa q a=some (v4a q a):=by
 unfold wfa v4a;rw[ywa q a false hq hw hl];simp only[Option.bind_some,kca,zGa,kra];by_cases hc:(queF q).Code=0
 .obtain ⟨ok,hF⟩:=jPa hc;have h1:((queF q).Code !=0)=false:=by simp[hc]
  have hn:=ok.n;rw[h1];simp only[Bool.false_eq_true,if_false];by_cases hca:(attP q a false).2.Code=0
  .obtain ⟨n,e,ha,he,hid,ht,t1,t2⟩:=K1a hca;have hne:=zIa he;rw[ha];simp only[bne_self_eq_false,cond_false,Bool.false_eq_true,if_false,Int.toNat_natCast,he,Option.getD_some];obtain ⟨u,m,hbz,hu,hm⟩:=kCb q hn hw ok.ids;rw[show iter (yia q) (0,([]:List ((Int × Str) × Bool)),([]:List (Str × Int)))=some (u,m) from hbz];simp only[Option.bind_some,hm,hu];have e1:(q.Entries.any fun x=>a.Entry==x.Id && uwP x a.Domain)=uwP e a.Domain:=by
    rw[Bool.eq_iff_iff,List.any_eq_true];constructor
    .rintro ⟨x,hx,hxe⟩;simp at hxe;have:x=e:=QXa ok.ids x hx e (List.mem_of_getElem? he) (by rw[hid];exact hxe.1.symm);rw[<-this];exact hxe.2
    intro h;exact ⟨e,List.mem_of_getElem? he,by simp[h,hid]⟩
   rw[e1];have e2:decide ((2:Int)<=(vxa q.Entries a.Domain:Int))=decide (2<=vxa q.Entries a.Domain):=by congr 1;apply propext;omega
   rw[e2];have e3:((bif decide (2<=vxa q.Entries a.Domain) then some true else some (uwP e a.Domain)):Option Bool)=some (decide (2<=vxa q.Entries a.Domain) || uwP e a.Domain):=by cases decide (2<=vxa q.Entries a.Domain) <;> rfl
   rw[e3];simp only[Option.bind_some];cases decide (2<=vxa q.Entries a.Domain) || uwP e a.Domain with
   | true=>rfl
   | false=>
    simp only[cond_false,Bool.false_eq_true,if_false];rw[qCa _ (by omega)];simp only[Option.bind_some];rw[show iter (yja q.Entries) (0,0,q.Entries)=some (q.Entries,q.Entries.length) from KXa q.Entries (QYa hq ok)];simp only[Option.bind_some];rw[zeb he hl (fun k hk=>by have:=jga _ _ _ _ _ _ (by omega) ht k hk;omega) (.inl rfl)];unfold WQa;rw[he];rfl
  have h2:((attP q a false).2.Code !=0)=true:=by simpa using hca
  rw[h2];rfl
 have h1:((queF q).Code !=0)=true:=by simpa using hc
 rw[h1];simp only[if_true,h1,cond_true]
def YTa(t:Int):Int:=if 8 < t then 14400 else 60 * 2 ^ (t - 1).toNat
theorem zxa(t w i w' i' :Int)(h1:decide (i < t)=true)(h2:decide (w < 14400)=true)(h3:min (w64 (2 * w)) 14400=w')(h4:w64 (i+1)=i'):iter (kOa t) (w,i)=iter (kOa t) (w',i'):=by
 refine zTa ?_;unfold kOa;dsimp only;rw[h1,h2,h3,h4];rfl
theorem vua(t w i:Int)(h:(decide (i < t) && decide (w < 14400))=false):iter (kOa t) (w,i)=some w:=by
 refine zKa ?_;unfold kOa;dsimp only;cases h1:decide (i < t) with
 | false=>rfl
 | true=>rw[h1]at h;simp only[Bool.true_and]at h;rw[h];rfl
theorem wait_eq(t:Int)(h:1<=t):iter (kOa t) (60,1)=some (YTa t):=by
 by_cases h8:8 < t
 .unfold YTa;rw[if_pos h8];rw[zxa t 60 1 120 2 (decide_eq_true (by omega)) rfl rfl rfl,zxa t 120 2 240 3 (decide_eq_true (by omega)) rfl rfl rfl,zxa t 240 3 480 4 (decide_eq_true (by omega)) rfl rfl rfl,zxa t 480 4 960 5 (decide_eq_true (by omega)) rfl rfl rfl,zxa t 960 5 1920 6 (decide_eq_true (by omega)) rfl rfl rfl,zxa t 1920 6 3840 7 (decide_eq_true (by omega)) rfl rfl rfl,zxa t 3840 7 7680 8 (decide_eq_true (by omega)) rfl rfl rfl,zxa t 7680 8 14400 9 (decide_eq_true (by omega)) rfl rfl rfl];exact vua t 14400 9 (by simp)
 have:t=1∨t=2∨t=3∨t=4∨t=5∨t=6∨t=7∨t=8:=by omega
 rcases this with rfl | rfl | rfl | rfl | rfl | rfl | rfl | rfl
 .exact vua 1 60 1 rfl
 .rw[zxa 2 60 1 120 2 rfl rfl rfl rfl];exact vua 2 120 2 rfl
 .rw[zxa 3 60 1 120 2 rfl rfl rfl rfl,zxa 3 120 2 240 3 rfl rfl rfl rfl];exact vua 3 240 3 rfl
 .rw[zxa 4 60 1 120 2 rfl rfl rfl rfl,zxa 4 120 2 240 3 rfl rfl rfl rfl,zxa 4 240 3 480 4 rfl rfl rfl rfl];exact vua 4 480 4 rfl
 .rw[zxa 5 60 1 120 2 rfl rfl rfl rfl,zxa 5 120 2 240 3 rfl rfl rfl rfl,zxa 5 240 3 480 4 rfl rfl rfl rfl,zxa 5 480 4 960 5 rfl rfl rfl rfl];exact vua 5 960 5 rfl
 .rw[zxa 6 60 1 120 2 rfl rfl rfl rfl,zxa 6 120 2 240 3 rfl rfl rfl rfl,zxa 6 240 3 480 4 rfl rfl rfl rfl,zxa 6 480 4 960 5 rfl rfl rfl rfl,zxa 6 960 5 1920 6 rfl rfl rfl rfl];exact vua 6 1920 6 rfl
 .rw[zxa 7 60 1 120 2 rfl rfl rfl rfl,zxa 7 120 2 240 3 rfl rfl rfl rfl,zxa 7 240 3 480 4 rfl rfl rfl rfl,zxa 7 480 4 960 5 rfl rfl rfl rfl,zxa 7 960 5 1920 6 rfl rfl rfl rfl,zxa 7 1920 6 3840 7 rfl rfl rfl rfl];exact vua 7 3840 7 rfl
 rw[zxa 8 60 1 120 2 rfl rfl rfl rfl,zxa 8 120 2 240 3 rfl rfl rfl rfl,zxa 8 240 3 480 4 rfl rfl rfl rfl,zxa 8 480 4 960 5 rfl rfl rfl rfl,zxa 8 960 5 1920 6 rfl rfl rfl rfl,zxa 8 1920 6 3840 7 rfl rfl rfl rfl,zxa 8 3840 7 7680 8 rfl rfl rfl rfl];exact vua 8 7680 8 rfl
theorem WRa(t:Int)(h:1<=t):0<=YTa t/\YTa t<=14400:=by
 unfold YTa;by_cases h8:8 < t
 .rw[if_pos h8];omega
 have:t=1∨t=2∨t=3∨t=4∨t=5∨t=6∨t=7∨t=8:=by omega
 rcases this with rfl | rfl | rfl | rfl | rfl | rfl | rfl | rfl <;> decide
def yxa(since tries now:Int):Int × Bool:=if since+345600<=now then (0,false) else (min (min (now+YTa tries) (since+345600)) 68719476736,true)
theorem ZZa{t:Int}(h:yla t=true): -68719476736<=t/\t<=68719476736:=by
 unfold yla at h;simpa using h
theorem WSa(a b:Int)(ha:yla a=true)(hb:yla b=true):wua [a,b]=some true:=by
 unfold wua;have t0:∀v,yla v=true->k7a v=some true:=fun v hv=>by rw[vta];exact congrArg some hv
 have h1:kSa [a,b] 0=some (.cont 1):=by
  unfold kSa;rw[show idx [a,b] 0=some a from rfl];simp only[Option.bind_some,t0 a ha];rfl
 have h2:kSa [a,b] 1=some (.cont 2):=by
  unfold kSa;rw[show idx [a,b] 1=some b from rfl];simp only[Option.bind_some,t0 b hb];rfl
 rw[zTa h1,zTa h2,zKa (r:=.inl ()) rfl];rfl
theorem VQa(a t n:Int)(ha:yla a=true)(hn:yla n=true)(ht:1<=t/\t<=1000000)(hle:a<=n):w0a a t n=some ((yxa a t n).1,(yxa a t n).2,⟨0,0⟩):=by
 unfold w0a yxa;obtain ⟨a1,a2⟩:=ZZa ha;obtain ⟨n1,n2⟩:=ZZa hn;obtain ⟨w1,w2⟩:=WRa t ht.1;rw[WSa a n ha hn,wait_eq t ht.1];simp only[Option.bind_some,kra,Bool.not_true,cond_false];rw[decide_eq_false (show ¬t < 1 by omega),decide_eq_false (show ¬(1000000:Int) < t by omega),decide_eq_false (show ¬n < a by omega),wRa (n:=a+345600) (by omega) (by omega),wRa (n:=n+YTa t) (by omega) (by omega)];simp only[cond_false,Option.bind_some];by_cases h:a+345600<=n
 .rw[decide_eq_true h,if_pos h];rfl
 rw[decide_eq_false h,if_neg h];rfl
def badR(v:Int):Bool:=decide (v < 1) || decide (4 < v)
def latR(v:Int):Bool:=v==2 || v==4
def finV(again:Bool)(v:Int):Int:=if latR v then (if again then 0 else 3) else v
def resK(again:Bool)(T:List zda)(kv:Int × Int):List zda:=match T[kv.1.toNat]? with
 | some w=>T.set kv.1.toNat ⟨w.Recipient,finV again kv.2,false⟩
 | none=>T
def resS(again:Bool)(id:Int)(s:List zia × List zda)(kv:Int × Int):List zia × List zda:=(if finV again kv.2 !=0 then s.1++ [⟨id,kv.1,finV again kv.2⟩] else s.1,resK again s.2 kv)
theorem VRa(again:Bool)(T:List zda)(kv:Int × Int):(resK again T kv).length=T.length:=by unfold resK;split <;> simp
theorem latB(v:Int):((bif (v==2) then some true else some ((v==4))):Option Bool)=some (latR v):=by unfold latR;cases v==2 <;> rfl
theorem badB(v:Int):((bif decide (v < 1) then some true else some (decide (4 < v))):Option Bool)=some (badR v):=by unfold badR;cases decide (v < 1) <;> rfl
theorem kEb{α:Type}(P:α->Bool)(l:List α):decide (0<=(z7a (fun i x=>if P x then some ((i:Nat):Int) else none) 0 l).getD (-1))=l.any P:=by
 cases hf:z7a (fun i x=>if P x then some ((i:Nat):Int) else none) 0 l with
 | none=>
  rw[q9a]at hf;have:l.any P=false:=by
   rw[List.any_eq_false];intro x hx hP;obtain ⟨i,hi⟩:=List.mem_iff_getElem?.1 hx;have:=hf i x hi;simp[hP]at this
  rw[this];rfl
 | some z=>
  obtain ⟨i,x,h1,h2⟩:=jLa hf;cases hP:P x with
  | false=>simp[hP]at h2
  | true=>
   simp[hP]at h2;have:l.any P=true:=List.any_eq_true.2 ⟨x,List.mem_of_getElem? h1,hP⟩;rw[this];exact decide_eq_true (by simp;omega)
theorem WTa{a:zha}{rs:List Int}{f:zra}{L:List zba}{n m:Nat}{e e1:zba}{again:Bool}{j3:Int × Int × Int}{j60:Bool × List zba}{j63:Int × List zba}{b:List zba × Nat}
 (hn:n < L.length) (hm:n < b.2) (hl:a.To.length<=1048576) (hrl:rs.length=a.To.length) (hbad:∀v∈rs,badR v=false) (hid:e1.Id=a.Entry) (h3:j3.1=(n:Int)) (h60:rs.any latR=true->j60.1=again) (h63:rs.any latR=true->j63.1=if again then 0 else 3)
 {body:Int × List zia × List zba->Option (Step (Int × List zia × List zba) (List zia × List zba))} (hb:body=qha a rs ((n:Int),f) b j60∨body=wOa a rs j3 b j63):
 ∀(r p rr pp:List Int) (last:Int) (out:List zia) (T:List zda),a.To=p++r->rs=pp++rr->p.length=pp.length-> -1<=last->toR e a.Domain true p.length last r=none->T.length=e.To.length->(∀j:Nat,last < (j:Int)->T[j]? =e.To[j]?)->out.length<=p.length->
  iter body ((p.length:Int),out,L.set n (wTo e1 T))=some (((r.zip rr).foldl (resS again a.Entry) (out,T)).1,L.set n (wTo e1 ((r.zip rr).foldl (resS again a.Entry) (out,T)).2)):=by
 have hnown:nown b.2 (n:Int)=some true:=by unfold nown;rw[if_pos (by simpa using hm)]
 intro r;induction r with
 | nil=>
  intro p rr pp last out T hp hpp hpl hla ht hT hj ho;have hp' :a.To=p:=by simpa using hp
  refine zKa ?_;rcases hb with rfl | rfl
  .unfold qha;dsimp only;rw[<-hp',zPa];rfl
  unfold wOa;dsimp only;rw[<-hp',zPa];rfl
 | cons k r ih=>
  intro p rr pp last out T hp hpp hpl hla ht hT hj ho;have hx:a.To[p.length]? =some k:=by rw[hp];simp
  have hlt:=zIa hx;obtain ⟨v,rr',rfl⟩:∃v rr',rr=v::rr' :=by
   cases rr with
   | nil=>exfalso;rw[hp,hpp]at hrl;simp at hrl;omega
   | cons v rr' =>exact ⟨v,rr',rfl⟩
  have hv:rs[p.length]? =some v:=by rw[hpp,hpl];simp
  have hvb:=hbad v (List.mem_of_getElem? hv);have ht0:=ht;obtain ⟨k0,k1,w,w1,w2,w3,w4⟩:=jga _ _ _ _ _ _ hla ht k (by simp);obtain ⟨kn,rfl⟩:∃kn:Nat,k=(kn:Int):=⟨k.toNat,by omega⟩;simp only[Int.toNat_natCast]at w1;have hkT:T[kn]? =some w:=by rw[hj kn k0,w1]
  have hkl:=zIa hkT;have htr:toR e a.Domain true (p.length+1) (kn:Int) r=none:=by
   unfold toR at ht;split at ht
   .cases ht
   simp only[Int.toNat_natCast,w1]at ht;split at ht
   .cases ht
   split at ht
   .cases ht
   exact ht
  have hres:resK again T ((kn:Int),v)=T.set kn ⟨w.Recipient,finV again v,false⟩:=by unfold resK;simp only[Int.toNat_natCast,hkT]
  have hvl:latR v=true->rs.any latR=true:=fun h=>List.any_eq_true.2 ⟨v,List.mem_of_getElem? hv,h⟩
  have hw:idx T (kn:Int)=some w:=zza hkT;have happ:app 5864062014805 out ([⟨a.Entry,(kn:Int),finV again v⟩]:List zia)=some (out++ [⟨a.Entry,(kn:Int),finV again v⟩]):=wxa (by simp;omega);have hw2:∀x:zda,idx (T.set kn x) (kn:Int)=some x:=fun x=>zza (by simp[hkl])
  have hmk:∀T' :List zda,zba.mk (wTo e1 T).Id (wTo e1 T).Mail (wTo e1 T).Since (wTo e1 T).Tries (wTo e1 T).Due T' =wTo e1 T' :=fun _=>rfl
  have hmk2:∀T'' T' :List zda,zba.mk (wTo e1 T'').Id (wTo e1 T'').Mail (wTo e1 T'').Since (wTo e1 T'').Tries (wTo e1 T'').Due T' =wTo e1 T' :=fun _ _=>rfl
  have hto:∀T' :List zda,(wTo e1 T').To=T' :=fun _=>rfl
  have hids:∀T' :List zda,(wTo e1 T').Id=a.Entry:=fun _=>hid
  have hfin0:latR v=true->again=true->finV again v=0:=fun h1 h2=>by unfold finV;rw[if_pos h1,if_pos h2]
  have hc:body ((p.length:Int),out,L.set n (wTo e1 T))=some (.cont (((p.length+1:Nat):Int),(resS again a.Entry (out,T) ((kn:Int),v)).1,L.set n (wTo e1 (resS again a.Entry (out,T) ((kn:Int),v)).2))):=by
   show body ((p.length:Int),out,L.set n (wTo e1 T))=some (Step.cont (((p.length+1:Nat):Int),(if finV again v !=0 then out++ [⟨a.Entry,(kn:Int),finV again v⟩] else out),L.set n (wTo e1 (resK again T ((kn:Int),v)))));rw[hres];rcases hb with rfl | rfl
   .unfold qha;dsimp only;rw[kna hx,zza hx,zza hv];simp only[cond_true,Option.bind_some,hnown,yXa hn,hw,Int.toNat_natCast,latB,hmk2,hto,List.set_set,hw2,sc _ (show p.length < 9223372036854775807 by omega)];cases hlv:latR v with
    | true=>
     rw[h60 (hvl hlv)];cases ha:again with
     | true=>
      have:finV true v=0:=by rw[<-ha];exact hfin0 hlv ha
      rw[this];simp only[cond_true,Option.bind_some];have hww:(⟨w.Recipient,w.Result,false⟩:zda)=⟨w.Recipient,0,false⟩:=by rw[w3]
      rw[hww];rfl
     | false=>
      have hf:finV false v=3:=by unfold finV;rw[if_pos hlv];rfl
      rw[ha,hf]at happ;rw[hf];simp only[cond_true,cond_false,Option.bind_some,yXa hn,hto,hw2,hids,List.set_set,hmk2,happ];rfl
    | false=>
     have hf:finV again v=v:=by unfold finV;rw[hlv];rfl
     rw[hf]at happ;have hv0:(v !=0)=true:=by
      unfold badR at hvb;simp at hvb ⊢;omega
     rw[hf,hv0];simp only[cond_false,Option.bind_some,yXa hn,hto,hw2,hids,List.set_set,hmk2,happ,if_true]
   unfold wOa;dsimp only;rw[kna hx,zza hx,zza hv,h3];have hj95:((bif latR v then some j63.1 else some v):Option Int)=some (finV again v):=by
    unfold finV;cases hlv:latR v with
    | true=>rw[h63 (hvl hlv)];rfl
    | false=>rfl
   simp only[cond_true,Option.bind_some,hnown,yXa hn,hw,Int.toNat_natCast,latB,hmk2,hto,List.set_set,hw2,hj95,sc _ (show p.length < 9223372036854775807 by omega)];simp only[happ,hw2,Option.bind_some];cases finV again v !=0 <;> rfl
  rw[zTa hc];have:=ih (p++ [(kn:Int)]) rr' (pp++ [v]) (kn:Int) (resS again a.Entry (out,T) ((kn:Int),v)).1 (resS again a.Entry (out,T) ((kn:Int),v)).2 (by simp[hp]) (by simp[hpp]) (by simp[hpl]) (by omega) (by simpa using htr) (by
   show (resK again T ((kn:Int),v)).length=_;rw[VRa,hT]) (fun j hjj=>by
   show (resK again T ((kn:Int),v))[j]? =_;rw[hres,List.getElem?_set_ne (by omega)];exact hj j (by omega)) (by
   show (if finV again v !=0 then out++ [⟨a.Entry,(kn:Int),finV again v⟩] else out).length<=_;split <;> simp <;> omega)
  simpa using this
def v8a(e:zba):Int:=min (e.Tries+1) 1000000
def w6a(e:zba)(rs:List Int)(now:Int):Bool:=if rs.any latR then (yxa e.Since (v8a e) now).2 else true
def qDa(e:zba)(rs:List Int)(now:Int):zba:=if rs.any latR then ⟨e.Id,e.Mail,e.Since,v8a e,if (yxa e.Since (v8a e) now).2 then max (yxa e.Since (v8a e) now).1 e.Due else e.Due,e.To⟩ else e
def resP(e:zba)(a:zha)(rs:List Int)(now:Int):List zia × List zda:=(a.To.zip rs).foldl (resS (w6a e rs now) a.Entry) ([],e.To)
def jQa(e:zba):Bool:=e.To.any opnW
def noE:zba:=⟨0,⟨⟨[],[],[]⟩,⟨[],[]⟩⟩,0,0,0,[]⟩
def endP(q:zpa)(a:zha)(rs:List Int)(now:Int)(n:Nat)(e:zba):zpa × List zia × zra:=(⟨(q.Entries.set n (wTo (qDa e rs now) (resP e a rs now).2)).filter jQa,q.Next⟩,(resP e a rs now).1,⟨0,0⟩)
def w7a(q:zpa)(a:zha)(rs:List Int)(now:Int):zpa × List zia × zra:=
 if (queF q).Code !=0 then (⟨[],0⟩,[],queF q) else if (attP q a true).2.Code !=0 then (⟨[],0⟩,[],(attP q a true).2) else
 if rs.length≠a.To.length then (⟨[],0⟩,[],⟨9, -6⟩) else if rs.any badR then (⟨[],0⟩,[],⟨3, -6⟩) else if !yla now then (⟨[],0⟩,[],⟨3, -7⟩) else
 if now < ((q.Entries[(attP q a true).1.toNat]?).getD noE).Since then (⟨[],0⟩,[],⟨19, -7⟩) else endP q a rs now (attP q a true).1.toNat ((q.Entries[(attP q a true).1.toNat]?).getD noE)
def K2a(T:List zda)(M:List zca):Prop:=T.length=M.length/\∀(j:Nat) (w:zda) (r:zca),T[j]? =some w->M[j]? =some r->wBad w r=false
theorem WUa(T:List zda)(M:List zca):K2a T M↔(T.length=M.length/\((T.zip M).any fun p=>wBad p.1 p.2)=false):=by
 unfold K2a;refine and_congr Iff.rfl ?_;rw[List.any_eq_false];constructor
 .rintro h ⟨w,r⟩ hx hb;obtain ⟨j,hj⟩:=List.mem_iff_getElem?.1 hx;rw[List.getElem?_zip_eq_some]at hj;rw[h j w r hj.1 hj.2]at hb;cases hb
 intro h j w r h1 h2;have:=h (w,r) (List.mem_of_getElem? (i:=j) (by rw[List.getElem?_zip_eq_some];exact ⟨h1,h2⟩));simpa using this
theorem zfb{again:Bool}{T:List zda}{M:List zca}{kv:Int × Int}(h:K2a T M)(hv:badR kv.2=false):K2a (resK again T kv) M:=by
 refine ⟨by rw[VRa];exact h.1,fun j w r h1 h2=>?_⟩;unfold resK at h1;split at h1
 .rename_i w0 hw0;by_cases hj:kv.1.toNat=j
  .subst hj;rw[List.getElem?_set_self (zIa hw0)]at h1;cases h1;have:=h.2 _ w0 r hw0 h2;unfold wBad at this ⊢;simp only[Bool.or_eq_false_iff]at this;obtain ⟨⟨a1,a2⟩,a3⟩:=this;rw[a1];have:finV again kv.2=0∨finV again kv.2=1∨finV again kv.2=3:=by
    unfold badR at hv;simp at hv;unfold finV;cases hl:latR kv.2 with
    | true=>cases again <;> simp
    | false=>
     unfold latR at hl;simp at hl;simp only[Bool.false_eq_true,if_false];omega
   rcases this with h | h | h <;> simp[h]
  rw[List.getElem?_set_ne hj]at h1;exact h.2 j w r h1 h2
 exact h.2 j w r h1 h2
theorem QZa{again:Bool}{id:Int}{M:List zca}:∀(l:List (Int × Int)) (s:List zia × List zda),(∀kv∈l,badR kv.2=false)->K2a s.2 M->K2a (l.foldl (resS again id) s).2 M
 | [],s,_,h=>h
 | kv::l,s,hb,h=>QZa l _ (fun x hx=>hb x (by simp[hx])) (zfb h (hb kv (by simp)))
theorem zgb{e:zba}(h:K2a e.To e.Mail.Envelope.To):Z6a e=jQa e:=by
 unfold Z6a jQa;rw[WUa]at h;rw[decide_eq_true h.1,h.2];rfl
theorem yoa{e:zba}(h:Z6a e=true):K2a e.To e.Mail.Envelope.To/\jQa e=true:=by
 unfold Z6a at h;simp only[Bool.and_eq_true,decide_eq_true_eq,Bool.not_eq_true']at h;exact ⟨(WUa _ _).2 ⟨h.1.1,h.1.2⟩,h.2⟩
theorem WVa{α:Type}{L:List α}{n:Nat}(x:α)(hn:n < L.length):L.set n x=L.take n++x::L.drop (n+1):=by
 rw[List.set_eq_take_append_cons_drop,if_pos hn]
theorem zhb{L:List zba}{n:Nat}{x:zba}(hn:n < L.length)(h:∀e∈L,jQa e=true):(L.set n x).filter jQa=if jQa x then L.set n x else L.take n++L.drop (n+1):=by
 rw[WVa x hn,List.filter_append,List.filter_cons,List.filter_eq_self.2 (fun e he=>h e (List.mem_of_mem_take he)),List.filter_eq_self.2 (fun e he=>h e (List.mem_of_mem_drop he))];split <;> rfl
theorem kFb{L2:List zba}{n:Nat}{x:zba}(hn:n < L2.length)(hl:L2.length<=1048576)(hx:L2[n]? =some x)(hxl:x.To.length<=1048576)(hg:K2a x.To x.Mail.Envelope.To):((idx L2 (n:Int)).bind fun v137=>(qga v137).bind fun v139=>(bif (!v139) then ((cut3 L2 (n:Int) ((w64 ((n:Int)+1))) ((L2.length:Int))).bind fun v143=>(bif ((n:Int)==(w64 ((n:Int)+1))) then some L2 else (cut L2 0 (n:Int)).bind fun v146=>(cut L2 ((w64 ((n:Int)+1))) (L2.length:Int)).bind fun v148=>(shft L2 (n:Int) ((w64 ((n:Int)+1)))).bind fun v150=>(KBa v150 (((((Int.toNat (n:Int))+(L2.length - (Int.toNat ((w64 ((n:Int)+1)))))):Nat):Int)) ((L2.length:Int))).bind fun v152=>some ((List.take ((Int.toNat (n:Int))+(L2.length - (Int.toNat ((w64 ((n:Int)+1)))))) ((clr0 v150 (Int.toNat (((((Int.toNat (n:Int))+(L2.length - (Int.toNat ((w64 ((n:Int)+1)))))):Nat):Int))) ((zba.mk 0 ((kua.mk ((zya.mk (([]:Str)) ([]) (([]:Str)))) ((zAa.mk ([]) ([]))))) 0 0 0 ([])))))))):Option (List zba)).bind fun (j142:List zba)=>some j142 else some L2):Option (List zba))=some (if jQa x then L2 else L2.take n++L2.drop (n+1)):=by
 rw[zza hx];simp only[Option.bind_some];rw[yva x hxl,zgb hg];simp only[Option.bind_some];cases jQa x with
 | true=>rfl
 | false=>
  simp only[Bool.not_false,cond_true,Bool.false_eq_true,if_false];rw[delAt_eq L2 n _ hn hl];rfl
theorem Jia(rs:List Int)(P:Int->Bool)(hl:rs.length<=1048576){body:Int->Option (Step Int (Unit ⊕ Int))}(hout:body (rs.length:Int)=some (.out (.inl ())))(hb:∀(i:Nat) (v:Int),rs[i]? =some v->body (i:Int)=some (if P v then .out (.inr (i:Int)) else .cont ((i+1:Nat):Int))):
 ∃z:Int,((iter body 0).bind (Sum.elim (fun _=>some ((-1))) (fun b=>some b)):Option Int)=some z/\decide (0<=z)=rs.any P:=by
 refine ⟨_,?_,kEb P rs⟩;rw[kta rs (fun i x=>if P x then some ((i:Nat):Int) else none) (.inl ()) .inr]
 .simp only[Option.bind_some,Kia]
 .exact hout
 intro i x hx;rw[hb i x hx];cases P x <;> rfl
theorem any_bad(rs:List Int)(hl:rs.length<=1048576):∃z:Int,((iter (vra rs) 0).bind (Sum.elim (fun _=>some ((-1))) (fun b=>some b)):Option Int)=some z/\decide (0<=z)=rs.any badR:=
 Jia rs badR hl (by unfold vra;rw[zPa];rfl) (fun i v hv=>by
  have:=zIa hv;unfold vra;rw[kna hv,zza hv];simp only[cond_true,Option.bind_some,badB,sc i (by omega)];cases badR v <;> rfl)
theorem any_late(rs:List Int)(hl:rs.length<=1048576):∃z:Int,((iter (vsa rs) 0).bind (Sum.elim (fun _=>some ((-1))) (fun b=>some b)):Option Int)=some z/\decide (0<=z)=rs.any latR:=
 Jia rs latR hl (by unfold vsa;rw[zPa];rfl) (fun i v hv=>by
  have:=zIa hv;unfold vsa;rw[kna hv,zza hv];simp only[cond_true,Option.bind_some,latB,sc i (by omega)];cases latR v <;> rfl)
theorem Jja(e:zba)(rs:List Int)(now:Int):(qDa e rs now).Id=e.Id:=by unfold qDa;split <;> rfl
theorem Q0a(e:zba)(rs:List Int)(now:Int):(qDa e rs now).Mail=e.Mail:=by unfold qDa;split <;> rfl
theorem Jka(e:zba)(rs:List Int)(now:Int):wTo (qDa e rs now) e.To=qDa e rs now:=by unfold qDa;split <;> rfl
theorem VSa(e:zba)(a:zha)(rs:List Int)(now:Int):(resP e a rs now).2.length=e.To.length:=by
 unfold resP;have:∀(l:List (Int × Int)) (s:List zia × List zda),(l.foldl (resS (w6a e rs now) a.Entry) s).2.length=s.2.length:=by
  intro l;induction l with
  | nil=>intro s;rfl
  | cons kv l ih=>intro s;rw[List.foldl_cons,ih];exact VRa _ _ _
 rw[this]
theorem zip_bad{ks rs:List Int}(h:∀v∈rs,badR v=false):∀kv∈ks.zip rs,badR kv.2=false:=fun kv hkv=>h kv.2 (List.of_mem_zip hkv).2
theorem Zna(q:zpa)(a:zha)(rs:List Int)(now:Int)(hq:vAa q)(hw:ZLa q)(hl:a.To.length<=1048576)(hrs:rs.length<=1048576):wga q a rs now=some (w7a q a rs now):=by
 unfold wga w7a;rw[ywa q a true hq hw hl];simp only[Option.bind_some,kca,zGa,kra,vta];by_cases hc:(queF q).Code=0
 .obtain ⟨ok,hF⟩:=jPa hc;have h1:((queF q).Code !=0)=false:=by simp[hc]
  have hn:=ok.n;rw[h1];simp only[Bool.false_eq_true,if_false];by_cases hca:(attP q a true).2.Code=0
  .obtain ⟨n,e,ha,he,hid,ht,t1,t2⟩:=K1a hca;have hne:=zIa he;have hem:=List.mem_of_getElem? he;obtain ⟨o1,o2,o3,o4,o5⟩:=ok.ent e hem;rw[ha];simp only[bne_self_eq_false,cond_false,Bool.false_eq_true,if_false,Int.toNat_natCast,he,Option.getD_some];by_cases hlen:rs.length=a.To.length
   .rw[show ((rs.length:Int) !=(a.To.length:Int))=false by rw[hlen];simp,if_neg (fun h=>h hlen)];simp only[cond_false];obtain ⟨z,hz,hzd⟩:=any_bad rs hrs;rw[hz];simp only[Option.bind_some,hzd];cases hbad:rs.any badR with
    | true=>rfl
    | false=>
     simp only[cond_false,Bool.false_eq_true,if_false];show (bif !yla now then _ else _)=_;cases htm:yla now with
     | false=>rfl
     | true=>
      simp only[Bool.not_true,cond_false,Bool.false_eq_true,if_false,zza he,Option.bind_some];by_cases hsi:now < e.Since
      .rw[decide_eq_true hsi,if_pos hsi];rfl
      rw[decide_eq_false hsi,if_neg hsi];simp only[cond_false];rw[qCa _ (by omega)];simp only[Option.bind_some];rw[show iter (yka q.Entries) (0,0,q.Entries)=some (q.Entries,q.Entries.length) from KXa q.Entries (QYa hq ok)];simp only[Option.bind_some,zza he];have hbads:∀v∈rs,badR v=false:=fun v hv=>by rw[List.any_eq_false]at hbad;simpa using hbad v hv
      have hg:K2a (wTo (qDa e rs now) (resP e a rs now).2).To (wTo (qDa e rs now) (resP e a rs now).2).Mail.Envelope.To:=by
       show K2a (resP e a rs now).2 (qDa e rs now).Mail.Envelope.To;rw[Q0a];exact QZa _ _ (zip_bad hbads) (yoa o5).1
      have hto:=(hw e hem).1;have htail:=kFb (L2:=q.Entries.set n (wTo (qDa e rs now) (resP e a rs now).2)) (n:=n) (x:=wTo (qDa e rs now) (resP e a rs now).2) (by simpa using hne) (by simp;omega) (by simp[hne]) (by show (resP e a rs now).2.length<=_;rw[VSa];omega) hg;have hfil:=zhb (L:=q.Entries) (x:=wTo (qDa e rs now) (resP e a rs now).2) hne (fun y hy=>(yoa (ok.ent y hy).2.2.2.2).2);have hfil2:(if jQa (wTo (qDa e rs now) (resP e a rs now).2) then q.Entries.set n (wTo (qDa e rs now) (resP e a rs now).2) else (q.Entries.set n (wTo (qDa e rs now) (resP e a rs now).2)).take n++(q.Entries.set n (wTo (qDa e rs now) (resP e a rs now).2)).drop (n+1))=(q.Entries.set n (wTo (qDa e rs now) (resP e a rs now).2)).filter jQa:=by
       rw[hfil];split
       .rfl
       rw[WVa _ hne];have hln:(q.Entries.take n).length=n:=by simp;omega
       rw[List.take_append_of_le_length (by omega),List.take_of_length_le (by omega),List.drop_append,hln,List.drop_of_length_le (by omega)];simp
      rw[hfil2]at htail;simp only[Int.toNat_natCast]at htail;obtain ⟨y,hy,hyd⟩:=any_late rs hrs;rw[hy];simp only[Option.bind_some,hyd];have hrng:=o4;unfold rngQ at hrng;simp only[Bool.and_eq_true,decide_eq_true_eq]at hrng;have htr:1<=v8a e/\v8a e<=1000000:=by unfold v8a;omega
      have hid1:(qDa e rs now).Id=a.Entry:=by rw[Jja,hid]
      cases hlat:rs.any latR with
      | false=>
       simp only[cond_false,Option.bind_some];have hs:qDa e rs now=e:=by unfold qDa;rw[hlat];rfl
       have hlp:=WTa (a:=a) (rs:=rs) (f:=⟨0,0⟩) (L:=q.Entries) (n:=n) (e:=e) (e1:=qDa e rs now) (again:=w6a e rs now) (j3:=((n:Int),0,0)) (j60:=(true,q.Entries)) (j63:=(0,[])) (b:=(q.Entries,q.Entries.length)) (m:=0) hne hne hl hlen hbads hid1 rfl (fun h=>by rw[hlat]at h;cases h) (fun h=>by rw[hlat]at h;cases h) (.inl rfl) a.To [] rs [] (-1) [] e.To rfl rfl rfl (by omega) ht rfl (fun j _=>rfl) (Nat.le_refl _);have hs0:q.Entries.set n (qDa e rs now)=q.Entries:=by rw[hs,Kka he]
       rw[Jka,hs0]at hlp;rw[show iter (qha a rs ((n:Int),⟨0,0⟩) (q.Entries,q.Entries.length) (true,q.Entries)) (0,([]:List zia),q.Entries)=some ((resP e a rs now).1,q.Entries.set n (wTo (qDa e rs now) (resP e a rs now).2)) from hlp];simp only[Option.bind_some];rw[htail];rfl
      | true=>
       have hw64:w64 (e.Tries+1)=e.Tries+1:=wRa (by omega) (by omega);simp only[cond_true,Option.bind_some,yXa hne,hw64,Int.toNat_natCast,List.set_set];rw[show min (e.Tries+1) 1000000=v8a e from rfl];rw[VQa e.Since (v8a e) now hrng.1.1.1 htm htr (by omega)];simp only[Option.bind_some];have hag:w6a e rs now=(yxa e.Since (v8a e) now).2:=by unfold w6a;rw[hlat];rfl
       have hj:∀X:List zba,X=q.Entries.set n (qDa e rs now)->iter (qha a rs ((n:Int),⟨0,0⟩) (q.Entries,q.Entries.length) ((yxa e.Since (v8a e) now).2,X)) (0,([]:List zia),X)=some ((resP e a rs now).1,q.Entries.set n (wTo (qDa e rs now) (resP e a rs now).2)):=by
        rintro X rfl;have hlp:=WTa (a:=a) (rs:=rs) (f:=⟨0,0⟩) (L:=q.Entries) (n:=n) (e:=e) (e1:=qDa e rs now) (again:=w6a e rs now) (j3:=((n:Int),0,0)) (j60:=((yxa e.Since (v8a e) now).2,q.Entries.set n (qDa e rs now))) (j63:=(if w6a e rs now then 0 else 3,[])) (b:=(q.Entries,q.Entries.length)) (m:=0) hne hne hl hlen hbads hid1 rfl (fun h=>hag.symm) (fun h=>rfl) (.inl rfl) a.To [] rs [] (-1) [] e.To rfl rfl rfl (by omega) ht rfl (fun j _=>rfl) (Nat.le_refl _);rw[Jka]at hlp;exact hlp
       have hlate:qDa e rs now=⟨e.Id,e.Mail,e.Since,v8a e,if (yxa e.Since (v8a e) now).2 then max (yxa e.Since (v8a e) now).1 e.Due else e.Due,e.To⟩:=by unfold qDa;rw[hlat];rfl
       cases hg2:(yxa e.Since (v8a e) now).2 with
       | true=>
        rw[hg2]at hj hlate;simp only[cond_true,Option.bind_some,yXa hne,List.set_set,Int.toNat_natCast];rw[hj _ (by rw[hlate];rfl)];simp only[Option.bind_some];rw[htail];rfl
       | false=>
        rw[hg2]at hj hlate;simp only[cond_false,Option.bind_some];rw[hj _ (by rw[hlate];rfl)];simp only[Option.bind_some];rw[htail];rfl
   rw[show ((rs.length:Int) !=(a.To.length:Int))=true by simp;omega,if_pos hlen];rfl
  have h2:((attP q a true).2.Code !=0)=true:=by simpa using hca
  rw[h2];rfl
 have h1:((queF q).Code !=0)=true:=by simpa using hc
 rw[h1];simp only[if_true,h1,cond_true]
theorem vXa{q:zpa}(h:zpa.bk q<=1048576):vAa q/\ZLa q:=by
 have h0:zpa.bk q=bkL zba.bk q.Entries+1+1:=rfl;have h1:=jMa (bk:=zba.bk) (fun x=>by unfold zba.bk;omega) q.Entries;have key:∀e∈q.Entries,jOa e.Mail/\yna e.To:=fun e he=>by
  have h2:=VEa (bk:=zba.bk) he;have h3:zba.bk e=1+kua.bk e.Mail+1+1+1+bkL zda.bk e.To+1:=rfl;have h4:=jMa (bk:=zda.bk) (fun x=>by unfold zda.bk;omega) e.To;refine ⟨QVa (by omega),by omega,fun w hw=>?_⟩;have h5:=VEa (bk:=zda.bk) hw;have h6:zda.bk w=(w.Recipient.Address.length+1+1+1)+1+1+1:=rfl;omega
 exact ⟨⟨by omega,fun e he=>⟨(key e he).1,(key e he).2.1⟩⟩,fun e he=>(key e he).2⟩
theorem zib(l:List Int)(h:l.length<=1048576):QLa l l=some true:=by
 unfold QLa;simp only[bne_self_eq_false,cond_false];rw[kta l (fun _ _=>(none:Option Bool)) (.inl ()) .inr]
 .rw[q9a.2 (fun _ _ _=>rfl)];rfl
 .unfold j9a;rw[zPa];rfl
 intro k w hw;have hk:=zIa hw;unfold j9a;rw[kna hw,zza hw];simp only[cond_true,Option.bind_some,bne_self_eq_false,cond_false,sc k (by omega)];rfl
theorem kGb(l:List Str)(hl:l.length<=1048576):Zaa l=some ⟨⟨[115,64,120],l.map (fun s=>⟨s,1⟩),[55]⟩,⟨[],[]⟩⟩:=by
 unfold Zaa;have:=(yTa l (fun i (s:List zca)=>(i,s)) (fun s x=>s++ [(⟨x,1⟩:zca)]) id (fun i s=>s.length<=i) (body:=wva l)
  (fun s _=>by unfold wva;simp[zPa]) (fun i x s hx hi=>by
   have hlt:=zIa hx;refine ⟨?_,by simp;omega⟩;unfold wva;dsimp only;rw[kna hx,zza hx];simp only[cond_true,Option.bind_some,sc i (by omega)];rw[wxa (by simp;omega)];rfl) [] (by simp)).1
 rw[this,Jfa];rfl
def exM:kua:=⟨⟨[115,64,120],[⟨[97,64,121],1⟩,⟨[98,64,121],1⟩,⟨[99,64,122],1⟩],[55]⟩,⟨[],[]⟩⟩
def exQ:zpa:=⟨[⟨0,exM,0,0,0,[⟨⟨[97,64,121],1⟩,0,false⟩,⟨⟨[98,64,121],1⟩,0,false⟩,⟨⟨[99,64,122],1⟩,0,false⟩]⟩],1⟩
def exQ2:zpa:=⟨[⟨0,exM,0,0,0,[⟨⟨[97,64,121],1⟩,0,true⟩,⟨⟨[98,64,121],1⟩,0,true⟩,⟨⟨[99,64,122],1⟩,0,false⟩]⟩],1⟩
def exQ3:zpa:=⟨[⟨0,exM,0,1,70,[⟨⟨[97,64,121],1⟩,1,false⟩,⟨⟨[98,64,121],1⟩,0,false⟩,⟨⟨[99,64,122],1⟩,0,false⟩]⟩],1⟩
def exA:zha:=⟨0,[121],[0,1]⟩
theorem ex_add:addP ⟨[],0⟩ exM 0=(exQ,0,⟨0,0⟩):=by rfl
theorem ex_ready:kDb exQ 0=([exA,⟨0,[122],[2]⟩],⟨0,0⟩):=by rfl
theorem ex_take:v4a exQ exA=(exQ2,⟨0,0⟩):=by rfl
theorem ex_done:w7a exQ2 exA [1,2] 10=(exQ3,[⟨0,0,1⟩],⟨0,0⟩):=by rfl
theorem YUa:Zca=some exQ:=by
 unfold Zca;rw[kGb _ (by decide)];simp only[Option.bind_some];rw[show (kua.mk ⟨[115,64,120],([[97,64,121],[98,64,121],[99,64,122]]:List Str).map (fun s=>(⟨s,1⟩:zca)),[55]⟩ ⟨[],[]⟩)=exM from rfl];rw[WJa _ _ _ (vXa (by decide)).1 (QVa (by decide)),ex_add];rfl
theorem Qoa:w1a=some true:=by
 unfold w1a;rw[YUa];simp only[Option.bind_some];rw[Qna _ _ (vXa (q:=exQ) (by decide)).1 (vXa (q:=exQ) (by decide)).2,ex_ready];simp only[Option.bind_some];rw[show (idx ([exA,⟨0,[122],[2]⟩]:List zha) 0)=some exA from rfl];simp only[Option.bind_some];rw[Zma _ _ (vXa (q:=exQ) (by decide)).1 (vXa (q:=exQ) (by decide)).2 (by decide),ex_take];simp only[Option.bind_some];rw[Zna _ _ _ _ (vXa (q:=exQ2) (by decide)).1 (vXa (q:=exQ2) (by decide)).2 (by decide) (by decide),ex_done];simp only[Option.bind_some];rw[show QLa exA.To [0,1]=some true from zib [0,1] (by decide)];rfl
theorem kHb{L:List zba}(h:L.Pairwise (fun a b=>a.Id < b.Id)){n:Nat}{e:zba}(he:L[n]? =some e):posI L e.Id=(n:Int):=by
 rcases YSa L e.Id with ⟨_,h2⟩ | ⟨m,y,h1,h2,h3⟩
 .exact absurd rfl (h2 e (List.mem_of_getElem? he))
 rw[h1];have hlt:=zIa he;have hlt2:=zIa h2;have hpw:=List.pairwise_iff_getElem.1 h;rw[List.getElem?_eq_getElem hlt]at he;rw[List.getElem?_eq_getElem hlt2]at h2;cases he;cases h2;rcases Nat.lt_trichotomy n m with h | h | h
 .have:=hpw n m hlt hlt2 h;omega
 .rw[h]
 have:=hpw m n hlt2 hlt h;omega
theorem Jla{q:zpa}{a:zha}(h:(v4a q a).2.Code=0):(queF q).Code=0/\∃(n:Nat) (e:zba),q.Entries[n]? =some e/\e.Id=a.Entry/\toR e a.Domain false 0 (-1) a.To=none/\v4a q a=(⟨q.Entries.set n (wTo e (a.To.foldl onK e.To)),q.Next⟩,⟨0,0⟩):=by
 unfold v4a at h ⊢;by_cases h0:(queF q).Code=0
 .rw[if_neg (by simp[h0])]at h ⊢;by_cases h1:(attP q a false).2.Code=0
  .rw[if_neg (by simp[h1])]at h ⊢;obtain ⟨n,e,ha,he,hid,ht,_⟩:=K1a h1;rw[ha]at h ⊢;simp only[Int.toNat_natCast,he,Option.getD_some]at h ⊢;cases hc:decide (2<=vxa q.Entries a.Domain) || uwP e a.Domain with
   | true=>rw[hc]at h;simp at h
   | false=>
    refine ⟨h0,n,e,he,hid,ht,?_⟩;simp only[Bool.false_eq_true,if_false];unfold WQa;rw[he]
  rw[if_pos (by simpa using h1)]at h;exact absurd h h1
 rw[if_pos (by simpa using h0)]at h;exact absurd h h0
theorem WWa{q:zpa}{a:zha}(h:(v4a q a).2.Code≠0):(v4a q a).1=⟨[],0⟩:=by
 unfold v4a at h ⊢;split
 .rfl
 rename_i h0;rw[if_neg h0]at h;split
 .rfl
 rename_i h1;rw[if_neg h1]at h;split
 .rfl
 rename_i h2;rw[if_neg h2]at h;exact absurd rfl h
theorem Jma{q:zpa}{a:zha}{rs:List Int}{now:Int}(h:(w7a q a rs now).2.2.Code=0):(queF q).Code=0/\∃(n:Nat) (e:zba),q.Entries[n]? =some e/\e.Id=a.Entry/\toR e a.Domain true 0 (-1) a.To=none/\rs.length=a.To.length/\w7a q a rs now=endP q a rs now n e:=by
 unfold w7a at h ⊢;by_cases h0:(queF q).Code=0
 .rw[if_neg (by simp[h0])]at h ⊢;by_cases h1:(attP q a true).2.Code=0
  .rw[if_neg (by simp[h1])]at h ⊢;obtain ⟨n,e,ha,he,hid,ht,_⟩:=K1a h1;rw[ha]at h ⊢;simp only[Int.toNat_natCast,he,Option.getD_some]at h ⊢;by_cases h2:rs.length=a.To.length
   .refine ⟨h0,n,e,he,hid,ht,h2,?_⟩;rw[if_neg (by simpa using h2)]at h ⊢;split
    .rename_i h3;rw[if_pos h3]at h;simp at h
    rename_i h3;rw[if_neg h3]at h;split
    .rename_i h4;rw[if_pos h4]at h;simp at h
    rename_i h4;rw[if_neg h4]at h;split
    .rename_i h5;rw[if_pos h5]at h;simp at h
    rfl
   rw[if_pos h2]at h;simp at h
  rw[if_pos (by simpa using h1)]at h;exact absurd h h1
 rw[if_pos (by simpa using h0)]at h;exact absurd h h0
theorem WXa{q:zpa}{a:zha}{rs:List Int}{now:Int}(h:(w7a q a rs now).2.2.Code≠0):(w7a q a rs now).2.1=[]:=by
 unfold w7a at h ⊢;split
 .rfl
 rename_i h0;rw[if_neg h0]at h;split
 .rfl
 rename_i h1;rw[if_neg h1]at h;split
 .rfl
 rename_i h2;rw[if_neg h2]at h;split
 .rfl
 rename_i h3;rw[if_neg h3]at h;split
 .rfl
 rename_i h4;rw[if_neg h4]at h;split
 .rfl
 rename_i h5;rw[if_neg h5]at h;exact absurd rfl h
theorem zjb(a:zha)(rs:List Int)(now:Int):(w7a ⟨[],0⟩ a rs now).2.2.Code≠0:=by
 intro h;obtain ⟨_,n,e,he,_⟩:=Jma h;simp at he
theorem toR_pw(e:zba)(dom:Str)(on:Bool):∀(ks:List Int) (i:Nat) (last:Int), -1<=last->toR e dom on i last ks=none->ks.Pairwise (fun a b=>a < b)
 | [],_,_,_,_=>List.Pairwise.nil
 | k::ks,i,last,hl,h=>by
  have h0:=jga e dom on (k::ks) i last hl h k (by simp);unfold toR at h;split at h
  .cases h
  have hkl:k.toNat < e.To.length:=by omega
  rw[List.getElem?_eq_getElem hkl]at h;dsimp only at h;split at h
  .cases h
  split at h
  .cases h
  exact List.pairwise_cons.2 ⟨fun x hx=>(jga e dom on ks _ k (by omega) h x hx).1,toR_pw e dom on ks _ k (by omega) h⟩
theorem kIb:∀(ks:List Int) (T:List zda) (n:Nat) (w:zda),T[n]? =some w->∃w',(ks.foldl onK T)[n]? =some w' /\w'.Result=w.Result
 | [],T,n,w,h=>⟨w,h,rfl⟩
 | k::ks,T,n,w,h=>by
  have h1:∃w',(onK T k)[n]? =some w' /\w'.Result=w.Result:=by
   unfold onK;split
   .rename_i v hv;by_cases hk:k.toNat=n
    .rw[hk]at hv ⊢;rw[h]at hv;cases hv;exact ⟨_,List.getElem?_set_self (zIa h),rfl⟩
    exact ⟨w,by rw[List.getElem?_set_ne hk];exact h,rfl⟩
   exact ⟨w,h,rfl⟩
  obtain ⟨w',a,b⟩:=h1;obtain ⟨w2,c,d⟩:=kIb ks (onK T k) n w' a;exact ⟨w2,c,by rw[d,b]⟩
def cntO(id:Int)(n:Nat)(o:List zia):Nat:=o.countP fun x=>x.Entry==id && x.Number==(n:Int)
theorem WYa(id:Int)(n:Nat)(o:List zia)(x:zia):cntO id n (o++ [x])=cntO id n o+(if x.Entry==id && x.Number==(n:Int) then 1 else 0):=by
 unfold cntO;rw[List.countP_append,List.countP_cons,List.countP_nil];simp
theorem VTa(again:Bool)(id:Int)(n:Nat):∀(l:List (Int × Int)) (s:List zia × List zda) (w:zda),(∀kv∈l,0<=kv.1)->l.Pairwise (fun a b=>a.1 < b.1)->s.2[n]? =some w->
 ∃w2,(l.foldl (resS again id) s).2[n]? =some w2/\((∃kv∈l,kv.1=(n:Int)/\w2.Result=finV again kv.2/\cntO id n (l.foldl (resS again id) s).1=cntO id n s.1+(if finV again kv.2 !=0 then 1 else 0))∨(∀kv∈l,kv.1≠(n:Int))/\w2.Result=w.Result/\cntO id n (l.foldl (resS again id) s).1=cntO id n s.1)
 | [],s,w,_,_,hw=>⟨w,hw,.inr ⟨fun kv h=>(by cases h),rfl,rfl⟩⟩
 | kv::l,s,w,h0,hp,hw=>by
  obtain ⟨p1,p2⟩:=List.pairwise_cons.1 hp;have hk0:=h0 kv (by simp);rw[List.foldl_cons];by_cases hk:kv.1=(n:Int)
  .have hT:(resS again id s kv).2[n]? =some ⟨w.Recipient,finV again kv.2,false⟩:=by
    unfold resS resK;dsimp only;rw[show kv.1.toNat=n by omega,hw];dsimp only;rw[List.getElem?_set_self (zIa hw)]
   have hc:cntO id n (resS again id s kv).1=cntO id n s.1+(if finV again kv.2 !=0 then 1 else 0):=by
    unfold resS;dsimp only;split
    .rw[WYa];simp[hk]
    rfl
   obtain ⟨w2,a,b⟩:=VTa again id n l (resS again id s kv) _ (fun x hx=>h0 x (by simp[hx])) p2 hT;refine ⟨w2,a,.inl ⟨kv,by simp,hk,?_⟩⟩;rcases b with ⟨kv2,m1,m2,_⟩ | ⟨_,b1,b2⟩
   .have:=p1 kv2 m1;omega
   exact ⟨b1,by rw[b2,hc]⟩
  have hT:(resS again id s kv).2[n]? =some w:=by
   unfold resS resK;dsimp only;split
   .rw[List.getElem?_set_ne (by omega)];exact hw
   exact hw
  have hc:cntO id n (resS again id s kv).1=cntO id n s.1:=by
   unfold resS;dsimp only;split
   .rw[WYa];simp[hk]
   rfl
  obtain ⟨w2,a,b⟩:=VTa again id n l (resS again id s kv) w (fun x hx=>h0 x (by simp[hx])) p2 hT;refine ⟨w2,a,?_⟩;rcases b with ⟨kv2,m1,m2,m3,m4⟩ | ⟨b0,b1,b2⟩
  .exact .inl ⟨kv2,by simp[m1],m2,m3,by rw[m4,hc]⟩
  refine .inr ⟨fun x hx=>?_,b1,by rw[b2,hc]⟩;rcases List.mem_cons.1 hx with rfl | hx
  .exact hk
  exact b0 x hx
theorem Jna(again:Bool)(id:Int):∀(l:List (Int × Int)) (s:List zia × List zda),(∀x∈s.1,x.Entry=id)->∀x∈(l.foldl (resS again id) s).1,x.Entry=id
 | [],s,h=>h
 | kv::l,s,h=>by
  rw[List.foldl_cons];refine Jna again id l _ fun x hx=>?_
  unfold resS at hx;dsimp only at hx;split at hx
  .rcases List.mem_append.1 hx with hx | hx
   .exact h x hx
   rw[List.mem_singleton.1 hx]
  exact h x hx
theorem ids_set{L:List zba}{n:Nat}{x y:zba}(h:L.Pairwise (fun a b=>a.Id < b.Id))(hx:L[n]? =some x)(hy:y.Id=x.Id):(L.set n y).Pairwise (fun a b=>a.Id < b.Id):=by
 have h1:(L.set n y).map zba.Id=L.map zba.Id:=by
  rw[List.map_set,hy];exact Kka (by rw[List.getElem?_map,hx];rfl)
 have h2:(L.map zba.Id).Pairwise (fun a b=>a < b):=List.pairwise_map.2 h;rw[<-h1]at h2;exact List.pairwise_map.1 h2
theorem K3a{α:Type}(c:α->Bool)(v:α->Bool)(b:Bool):∀(U:List α) (s:Bool),(∀y∈U,c y=true->v y=b)->U.foldl (fun s y=>if c y then v y else s) s=if U.any c then b else s
 | [],s,_=>rfl
 | y::U,s,h=>by
  rw[List.foldl_cons,K3a c v b U _ (fun x hx=>h x (by simp[hx])),List.any_cons];cases hc:c y with
  | true=>rw[h y (by simp) hc];simp
  | false=>simp
theorem kPa:vAa ⟨[],0⟩:=⟨by simp,fun e he=>by cases he⟩
theorem YVa(q:zpa)(a:zha)(hq:vAa q):vAa (v4a q a).1:=by
 unfold v4a;split
 .exact kPa
 split
 .exact kPa
 split
 .exact kPa
 show vAa ⟨WQa _ _ _,_⟩;unfold WQa;split
 .rename_i e he;refine ⟨by simp;exact hq.1,fun y hy=>?_⟩;rcases List.mem_or_eq_of_mem_set hy with hy | rfl
  .exact hq.2 y hy
  have hm:=hq.2 e (List.mem_of_getElem? he);refine ⟨hm.1,?_⟩;show (a.To.foldl onK e.To).length<=_;have:∀(l:List Int) (T:List zda),(l.foldl onK T).length=T.length:=by
   intro l;induction l with
   | nil=>intro T;rfl
   | cons k l ih=>intro T;rw[List.foldl_cons,ih,VPa]
  rw[this];exact hm.2
 exact hq
theorem WZa(again:Bool)(id:Int):∀(l:List (Int × Int)) (s:List zia × List zda),(l.foldl (resS again id) s).1.length<=s.1.length+l.length
 | [],s=>by simp
 | kv::l,s=>by
  rw[List.foldl_cons];have:=WZa again id l (resS again id s kv);have h2:(resS again id s kv).1.length<=s.1.length+1:=by unfold resS;dsimp only;split <;> simp
  simp only[List.length_cons];omega
theorem YWa(q:zpa)(a:zha)(rs:List Int)(now:Int)(hq:vAa q)(hl:a.To.length<=1048576):vAa (w7a q a rs now).1/\(w7a q a rs now).2.1.length<=1048576:=by
 unfold w7a;split
 .exact ⟨kPa,by simp⟩
 split
 .exact ⟨kPa,by simp⟩
 rename_i h1 h2;obtain ⟨n,e,ha,he,_⟩:=K1a (q:=q) (a:=a) (on:=true) (by simpa using h2);split
 .exact ⟨kPa,by simp⟩
 split
 .exact ⟨kPa,by simp⟩
 split
 .exact ⟨kPa,by simp⟩
 split
 .exact ⟨kPa,by simp⟩
 rw[ha];simp only[Int.toNat_natCast,he,Option.getD_some];unfold endP;have hm:=hq.2 e (List.mem_of_getElem? he);refine ⟨⟨?_,fun y hy=>?_⟩,?_⟩
 .have:=List.length_filter_le jQa (q.Entries.set n (wTo (qDa e rs now) (resP e a rs now).2));rw[List.length_set]at this;exact Nat.le_trans this hq.1
 .rcases List.mem_or_eq_of_mem_set (List.mem_filter.1 hy).1 with hy | rfl
  .exact hq.2 y hy
  refine ⟨?_,?_⟩
  .show jOa (qDa e rs now).Mail;rw[Q0a];exact hm.1
  show (resP e a rs now).2.length<=_;rw[VSa];exact hm.2
 have h3:=WZa (w6a e rs now) a.Entry (a.To.zip rs) ([],e.To);have h4:(a.To.zip rs).length<=a.To.length:=by rw[List.length_zip];omega
 show ((a.To.zip rs).foldl (resS (w6a e rs now) a.Entry) ([],e.To)).1.length<=_;simp only[List.length_nil]at h3;omega
def W0a(n:Nat)(y:zba):Bool:=match y.To[n]? with
 | some v=>v.Result==0
 | none=>false
def VUa(e y:zba):Bool:=y.Id==e.Id && decide (y.To.length=e.To.length)
def zkb(e:zba)(n:Nat)(U:List zba):Bool:=U.foldl (fun s y=>if VUa e y then W0a n y else s) false
theorem ln_l3(v3:zpa × (List zia) × zra)(e:zba)(n:Nat)(hl:v3.2.1.length<=1048576):iter (zYa v3 e (n:Int)) ((0,0))=some ((cntO e.Id n v3.2.1:Nat):Int):=by
 have:=JYa (body:=zYa v3 e (n:Int)) v3.2.1 (fun k (s:Int)=>(s,(k:Int))) (fun k r s=>s+((cntO e.Id n r:Nat):Int)) (fun k r s=>0<=s/\s<=(k:Int)) (fun s _=>by
  unfold zYa;dsimp only;rw[zPa];simp[cntO]) (fun p x r s hp hi=>.inr (by
  have hx:v3.2.1[p.length]? =some x:=by rw[hp];simp
  have hlt:=zIa hx;refine ⟨if x.Entry==e.Id && x.Number==(n:Int) then s+1 else s,?_,?_,?_⟩
  .unfold zYa;dsimp only;rw[kna hx,zza hx];simp only[cond_true,Option.bind_some,sc _ (show p.length < 9223372036854775807 by omega)];rw[wRa (n:=s+1) (by omega) (by omega)];cases x.Entry==e.Id <;> cases x.Number==(n:Int) <;> rfl
  .unfold cntO;rw[List.countP_cons];cases x.Entry==e.Id && x.Number==(n:Int) <;> simp <;> omega
  split <;> omega)) (s0:=(0,0)) 0 rfl (by simp)
 rw[this];simp
theorem ln_l4(v3:zpa × (List zia) × zra)(e:zba)(n:Nat)(hn:n < e.To.length)(hq:vAa v3.1):iter (zZa v3 e (n:Int)) ((false,0))=some (zkb e n v3.1.Entries):=by
 have h0:=hq.1;refine (yTa (body:=zZa v3 e (n:Int)) v3.1.Entries (fun k (s:Bool)=>(s,k)) (fun s y=>if VUa e y then W0a n y else s) id (fun _ _=>True) (fun s _=>?_) (fun i y s hy _=>⟨?_,trivial⟩) false trivial).1
 .unfold zZa;dsimp only;rw[zPa];rfl
 have hi:=zIa hy;unfold zZa;dsimp only;rw[kna hy,zza hy];simp only[cond_true,Option.bind_some,sc i (by omega)];unfold VUa;cases hid:y.Id==e.Id with
 | false=>simp
 | true=>
  simp only[cond_true,Option.bind_some,Bool.true_and];by_cases hle:y.To.length=e.To.length
  .rw[decide_eq_true hle,show ((y.To.length:Int)==(e.To.length:Int))=true by rw[hle];simp];have hw:y.To[n]? =some (y.To[n]'(by omega)):=List.getElem?_eq_getElem (by omega);generalize y.To[n]'(by omega)=w at hw;unfold W0a;rw[zza hw,hw];rfl
  rw[decide_eq_false hle,show ((y.To.length:Int)==(e.To.length:Int))=false by rw[beq_eq_false_iff_ne];omega];rfl
def ToldQ(e:zba)(n:Nat)(w:zda)(o:List zia)(U:List zba):Prop:=
 (w.Result=0/\∃b:Bool,cntO e.Id n o=(if b then 0 else 1)/\zkb e n U=b)∨cntO e.Id n o=0/\zkb e n U=(w.Result==0)
theorem ln_l2(v3:zpa × (List zia) × zra)(e:zba)(he:e.To.length<=1048576)(hl:v3.2.1.length<=1048576)(hq:vAa v3.1)(h:∀(n:Nat) (w:zda),e.To[n]? =some w->ToldQ e n w v3.2.1 v3.1.Entries):iter (kla v3 e) 0=some (.inl ()):=by
 rw[kta e.To (fun _ _=>(none:Option Bool)) (.inl ()) .inr,q9a.2 (fun _ _ _=>rfl)]
 .rfl
 .unfold kla;rw[zPa];rfl
 intro n w hw;have hn:=zIa hw;unfold kla;rw[kna hw,ln_l3 v3 e n hl,ln_l4 v3 e n hn hq,zza hw];simp only[cond_true,Option.bind_some,sc n (by omega)];rcases h n w hw with ⟨h1,b,h2,h3⟩ | ⟨h2,h3⟩
 .rw[h2,h3,h1];cases b <;> rfl
 rw[h2,h3];cases w.Result==0 <;> rfl
theorem ln_l1(q:zpa)(v3:zpa × (List zia) × zra)(hq0:vAa q)(hl:v3.2.1.length<=1048576)(hq:vAa v3.1)(h:∀e∈q.Entries,∀(n:Nat) (w:zda),e.To[n]? =some w->ToldQ e n w v3.2.1 v3.1.Entries):iter (kma q v3) 0=some (.inl ()):=by
 have h0:=hq0.1;rw[kta q.Entries (fun _ _=>(none:Option Bool)) (.inl ()) .inr,q9a.2 (fun _ _ _=>rfl)]
 .rfl
 .unfold kma;rw[zPa];rfl
 intro i e he;have hi:=zIa he;have hm:=List.mem_of_getElem? he;unfold kma;rw[kna he,zza he];simp only[cond_true,Option.bind_some];rw[ln_l2 v3 e (hq0.2 e hm).2 hl hq (h e hm)];simp only[Option.bind_some,Sum.elim_inl,sc i (by omega)];rfl
theorem kJb{q:zpa}{a:zha}{rs:List Int}{now:Int}(h1:(v4a q a).2.Code=0)(h2:(w7a (v4a q a).1 a rs now).2.2.Code=0):(w7a (v4a q a).1 a rs now).1.Next=q.Next/\∀e∈q.Entries,∀(n:Nat) (w:zda),e.To[n]? =some w->ToldQ e n w (w7a (v4a q a).1 a rs now).2.1 (w7a (v4a q a).1 a rs now).1.Entries:=by
 obtain ⟨hF,n0,e0,he0,hid0,ht0,htake⟩:=Jla h1;obtain ⟨ok,_⟩:=jPa hF;rw[htake]at h2 ⊢;dsimp only at h2 ⊢;obtain ⟨hF2,n1,e1,he1,hid1,ht1,hrs,hdone⟩:=Jma h2;obtain ⟨ok2,_⟩:=jPa hF2;dsimp only at he1;have hn0:=zIa he0;have hset:(q.Entries.set n0 (wTo e0 (a.To.foldl onK e0.To)))[n0]? =some (wTo e0 (a.To.foldl onK e0.To)):=List.getElem?_set_self hn0;have hids2:(q.Entries.set n0 (wTo e0 (a.To.foldl onK e0.To))).Pairwise (fun a b=>a.Id < b.Id):=ok2.ids;have hn:n1=n0:=by
  have p1:=kHb hids2 hset;have p2:=kHb hids2 he1;rw[hid1]at p2;rw[show (wTo e0 (a.To.foldl onK e0.To)).Id=a.Entry from hid0]at p1;omega
 subst hn;rw[hset]at he1;have he1' :wTo e0 (a.To.foldl onK e0.To)=e1:=by simpa using he1
 rw[hdone];unfold endP;dsimp only;refine ⟨rfl,?_⟩;rw[List.set_set];generalize hE2:wTo (qDa e1 rs now) (resP e1 a rs now).2=e2;have hid2:e2.Id=e0.Id:=by
  rw[<-hE2];show (qDa e1 rs now).Id=_;rw[Jja,<-he1'];rfl
 have hpw:=ids_set ok.ids he0 hid2;have hto2:e2.To=(resP e1 a rs now).2:=by rw[<-hE2];rfl
 have hto1:e1.To=a.To.foldl onK e0.To:=by rw[<-he1'];rfl
 have hlen:e2.To.length=e0.To.length:=by
  have:∀(l:List Int) (T:List zda),(l.foldl onK T).length=T.length:=by
   intro l;induction l with
   | nil=>intro T;rfl
   | cons k l ih=>intro T;rw[List.foldl_cons,ih,VPa]
  rw[hto2,VSa,hto1,this]
 have h2mem:e2∈q.Entries.set n1 e2:=List.mem_of_getElem? (List.getElem?_set_self hn0);intro e he n w hw;have hnl:=zIa hw;by_cases hee:e=e0
 .subst hee;obtain ⟨w1,g1,g2⟩:=kIb a.To e.To n w hw;have hzp:(a.To.zip rs).Pairwise (fun x y=>x.1 < y.1):=by
   have hp:=toR_pw e a.Domain false a.To 0 (-1) (by omega) ht0;have hm:(a.To.zip rs).map Prod.fst=a.To:=List.map_fst_zip (by omega);rw[<-hm]at hp;exact List.pairwise_map.1 hp
  have hk:∀k∈a.To, -1 < k/\k < (e.To.length:Int)/\∃w,e.To[k.toNat]? =some w/\wDom w=a.Domain/\w.Result=0/\w.Busy=false:=jga e a.Domain false a.To 0 (-1) (by omega) ht0;have hz0:∀kv∈a.To.zip rs,0<=kv.1:=fun kv hkv=>by
   have:=(hk kv.1 (List.of_mem_zip hkv).1).1;omega
  obtain ⟨w2,f1,f2⟩:=VTa (w6a e1 rs now) a.Entry n (a.To.zip rs) ([],e1.To) w1 hz0 hzp (by rw[hto1];exact g1);have hopen:zkb e n ((q.Entries.set n1 e2).filter jQa)=(w2.Result==0):=by
   unfold zkb;have hw2:e2.To[n]? =some w2:=by rw[hto2];exact f1
   have hval:W0a n e2=(w2.Result==0):=by unfold W0a;rw[hw2]
   rw[K3a (VUa e) (W0a n) (w2.Result==0) _ false (fun y hy hc=>by
    have hy' :=(List.mem_filter.1 hy).1;unfold VUa at hc;simp at hc;have:y=e2:=QXa hpw y hy' e2 h2mem (by rw[hc.1,hid2]);rw[this,hval])]
   cases hop:jQa e2 with
   | true=>
    rw[if_pos];rw[List.any_eq_true];exact ⟨e2,List.mem_filter.2 ⟨h2mem,hop⟩,by unfold VUa;simp[hid2,hlen]⟩
   | false=>
    have hres:(w2.Result==0)=false:=by
     unfold jQa at hop;rw[List.any_eq_false]at hop;have:=hop w2 (List.mem_of_getElem? hw2);unfold opnW at this;simpa using this
    rw[hres];simp
  have hc:cntO a.Entry n (resP e1 a rs now).1=cntO a.Entry n ((a.To.zip rs).foldl (resS (w6a e1 rs now) a.Entry) ([],e1.To)).1:=rfl;have hc0:cntO a.Entry n ([]:List zia)=0:=rfl;unfold ToldQ;rw[hopen,hid0,hc];rcases f2 with ⟨kv,m1,m2,m3,m4⟩ | ⟨_,m3,m4⟩
  .left;have hkk:=hk kv.1 (List.of_mem_zip m1).1;obtain ⟨_,_,w',k1,_,k2,_⟩:=hkk;rw[m2,Int.toNat_natCast,hw]at k1;cases k1;refine ⟨k2,w2.Result==0,?_,rfl⟩;rw[m4,m3];dsimp only;rw[hc0];cases hz:finV (w6a e1 rs now) kv.2==0 <;> simp[bne,hz]
  right;refine ⟨by rw[m4];exact hc0,by rw[m3,g2]⟩
 right;obtain ⟨m,hm⟩:=List.mem_iff_getElem?.1 he;have hne:n1≠m:=fun h=>by subst h;rw[he0]at hm;exact hee (by cases hm;rfl)
 have hmem:e∈q.Entries.set n1 e2:=List.mem_of_getElem? (i:=m) (by rw[List.getElem?_set_ne hne];exact hm);have hidne:e.Id≠a.Entry:=fun h=>hee (QXa ok.ids e he e0 (List.mem_of_getElem? he0) (by rw[h,hid0]))
 refine ⟨?_,?_⟩
 .unfold cntO;rw[List.countP_eq_zero];intro x hx hc;simp at hc;have:=Jna (w6a e1 rs now) a.Entry (a.To.zip rs) ([],e1.To) (fun x hx=>by cases hx) x hx;exact hidne (by rw[<-hc.1,this])
 unfold zkb;rw[K3a (VUa e) (W0a n) (w.Result==0) _ false (fun y hy hc=>by
  have hy' :=(List.mem_filter.1 hy).1;unfold VUa at hc;simp at hc;have:y=e:=QXa hpw y hy' e hmem hc.1;rw[this];unfold W0a;rw[hw])]
 rw[if_pos];rw[List.any_eq_true];obtain ⟨_,_,_,_,hwt⟩:=ok.ent e he;exact ⟨e,List.mem_filter.2 ⟨hmem,(yoa hwt).2⟩,by unfold VUa;simp⟩
theorem w8a(a0:zpa)(a1:zha)(a2:List Int)(a3:Int)(o0:zpa.ok a0)(o1:zha.ok a1)(o2:okL ok64 a2)(o3:ok64 a3)(hk:zpa.bk a0+zha.bk a1+bkL (fun _=>1) a2+1<=1048576):qia a0 a1 a2 a3=some true:=by
 obtain ⟨hq,hw⟩:=vXa (q:=a0) (by omega);have h1:zha.bk a1=1+(a1.Domain.length+1)+bkL (fun _=>1) a1.To+1:=rfl;have h2:=jMa (bk:=fun _:Int=>1) (fun x=>by simp) a1.To;have h3:=jMa (bk:=fun _:Int=>1) (fun x=>by simp) a2;have hl:a1.To.length<=1048576:=by omega
 have ht:=YVa a0 a1 hq;have htw:ZLa (v4a a0 a1).1:=by
  by_cases hc:(v4a a0 a1).2.Code=0
  .obtain ⟨_,n,e,he,_,_,htk⟩:=Jla hc;rw[htk];intro y hy;rcases List.mem_or_eq_of_mem_set hy with hy | rfl
   .exact hw y hy
   have hm:=hw e (List.mem_of_getElem? he);have key:∀(l:List Int) (T:List zda),yna T->yna (l.foldl onK T):=by
    intro l;induction l with
    | nil=>intro T h;exact h
    | cons k l ih=>
     intro T h;refine ih _ ⟨by rw[VPa];exact h.1,fun w hwm=>?_⟩;unfold onK at hwm;split at hwm
     .rename_i v hv;rcases List.mem_or_eq_of_mem_set hwm with hwm | rfl
      .exact h.2 w hwm
      exact h.2 v (List.mem_of_getElem? hv)
     exact h.2 w hwm
   exact key _ _ hm
  rw[WWa hc];intro y hy;cases hy
 obtain ⟨d1,d2⟩:=YWa (v4a a0 a1).1 a1 a2 a3 ht hl;unfold qia;rw[Zma a0 a1 hq hw hl];simp only[Option.bind_some];rw[Zna (v4a a0 a1).1 a1 a2 a3 ht htw hl (by omega),Qoa];simp only[Option.bind_some,Bool.not_true,cond_false,cond_true];by_cases hc1:(v4a a0 a1).2.Code=0
 .by_cases hc2:(w7a (v4a a0 a1).1 a1 a2 a3).2.2.Code=0
  .obtain ⟨t1,t2⟩:=kJb hc1 hc2;rw[hc1,hc2];simp only[bne_self_eq_false,cond_false,Option.bind_some];rw[ln_l1 a0 _ hq d2 d1 t2];simp only[Option.bind_some,Sum.elim_inl,t1,beq_self_eq_true]
  have e2:((w7a (v4a a0 a1).1 a1 a2 a3).2.2.Code !=0)=true:=by simpa using hc2
  rw[hc1,e2,WXa hc2];rfl
 have e1:((v4a a0 a1).2.Code !=0)=true:=by simpa using hc1
 have hc2:(w7a (v4a a0 a1).1 a1 a2 a3).2.2.Code≠0:=by rw[WWa hc1];exact zjb a1 a2 a3
 rw[e1,WXa hc2];rfl
theorem W1a(a0:List Str)(r:kua)(hr:Zaa a0=some r):Run prog 72 [.l cS a0] (.agg [.s r.Envelope.From,.l zca.pc r.Envelope.To,.s r.Envelope.Id,.l zga.pc r.Message.Fields,.l cU r.Message.Body]):=by
 unfold Zaa at hr;refine rf (fn:=f72) ⟨func72,rfl,by kernel_rfl⟩ rfl (fun _=>rfl) fun g0 hg=>?_
 refine rn tk 10 rfl ?_;refine jDa 1003 (o:=3) (j:=1) 61 2 rfl rfl rfl rfl (hO ?_);refine rn tk 1 rfl ?_;refine jDa 2003 (o:=3) (j:=1) 61 2 rfl rfl rfl rfl (hO ?_);refine rn tk 9 rfl<|al1 hr (fun s1=>[(0,.l cS a0),(2,.ptr 2 0),(3,.ptr 3 0),(4,.i s1.1)]) (fun s1=>[(2003,.row 61 false 2 (List.map zca.pc s1.2)),(3,.cells [.s (([115,64,120]:Str)),.hs 2003 0,.s (([55]:Str)),.l zga.pc ([]),.l cU ([])]),(2,.cells [.s (([]:Str)),.l zca.pc ([]),.s (([]:Str)),.l zga.pc ([]),.l cU ([])])]) (.exit 0) (fun b2=>[(2,.ptr 2 0),(3,.ptr 3 0)]) (fun b2=>[(2003,.row 61 false 2 (List.map zca.pc b2)),(3,.cells [.s (([115,64,120]:Str)),.hs 2003 0,.s (([55]:Str)),.l zga.pc ([]),.l cU ([])]),(2,.cells [.s (([]:Str)),.l zca.pc ([]),.s (([]:Str)),.l zga.pc ([]),.l cU ([])])]) rfl rfl (fun s1 x3 hr=>?_) (fun b2 hr=>?_)
 .unfold wva at hr;refine rn tk 5 rfl<|wn tk rfl rfl rfl<|rn tk 3 rfl<|ac 10 hr rfl (fun c4 hr=>?_) (fun c4 hr=>?_)
  .refine rn tk 4 rfl ?_;obtain ⟨v5,h6,hr⟩:=zaa hr;refine dr 9 [(21,.l zca.pc (([(zca.mk v5 1)]:List zca))),(20,.agg [.s v5,.i 1]),(19,.s v5),(18,.ep [pS v5]),(17,.i s1.1),(16,.l cS a0),(15,.hs 2003 0),(14,.ptr 3 1),(13,.ptr 3 0)] mixed (by kernel_rfl) rfl rfl (pq tk rfl (.plain rfl) (pq tk rfl (.plain rfl) (pq tk rfl (.plain rfl) (pq tk rfl (.plain rfl) (pq tk rfl (.plain rfl) (.run (.plain rfl) (z3a (wla (f:=cS) rfl rfl KMa zEa rfl h6)) (pq tk rfl (.plain rfl) (pq tk rfl (.plain rfl) (.run (.plain rfl) (yda (F:=zca.pc) (l:=([(zca.mk v5 1)]:List zca)) kba kva rfl (fun _=>rfl) rfl rfl) .nil))))))))) rfl ?_;obtain ⟨v7,h8,hr⟩:=zaa hr;refine wa tk h8 rfl rfl rfl rfl (fun _=>rfl) rfl rfl<|rn tk 11 rfl ?_;cases hr;exact atc rfl rfl
  refine rn tk 2 rfl ?_;cases hr;exact ato rfl rfl rfl rfl
 refine rn tk 8 rfl ?_;refine Kca (o:=2) (j:=1) (F:=zca.pc) (l:=b2) rfl rfl rfl (hC ?_);refine rn tk 1 rfl ?_;cases hr;exact kr tk (.inr rfl) rfl rfl
theorem zMa(a0:zra)(r:Bool)(hr:zVa a0=some r):Run prog 27 [.agg [.i a0.Code,.i a0.Index]] (.bo r):=by
 unfold zVa at hr;refine rf (fn:=Tryz.f27) ⟨func27,rfl,by kernel_rfl⟩ rfl (fun _=>rfl) fun g0 hg=>?_
 refine rn tk 15 rfl ?_;cases hr;exact kr tk (.inr rfl) rfl rfl
theorem zja(a0:Int)(a1:Int)(r:zra)(hr:zna a0 a1=some r):Run prog 29 [.i a0,.i a1] (.agg [.i r.Code,.i r.Index]):=by
 unfold zna at hr;refine rf (fn:=Tryz.f29) ⟨func29,rfl,by kernel_rfl⟩ rfl (fun _=>rfl) fun g0 hg=>?_
 refine rn tk 14 rfl ?_;cases hr;exact kr tk (.inr rfl) rfl rfl
theorem zHa(r:zra)(hr:kda=some r):Run prog 33 [] (.agg [.i r.Code,.i r.Index]):=by
 unfold kda at hr;refine rf (fn:=f33) ⟨func33,rfl,by kernel_rfl⟩ rfl (fun _=>rfl) fun g0 hg=>?_
 refine rn tk 12 rfl ?_;cases hr;exact kr tk (.inr rfl) rfl rfl
theorem qsa(a0:Int)(r:Bool)(hr:k7a a0=some r):Run prog 30 [.i a0] (.bo r):=by
 unfold k7a at hr;refine Zta (fn:=f30) ⟨func30,rfl,by kernel_rfl⟩ rfl (fun _=>rfl) fun g0 hg=>?_
 refine vga ?_;refine kHa ?_;refine zJa rfl (zLa (d:=2) rfl rfl vja) ?_;refine qGa<|kfa ?_;obtain ⟨j1,hx,hy⟩:=zaa hr;refine Vca (fun j1=>[(2,.bo j1)]) (fun j1=>[]) (fun z=>j1=z) ?_ ?_
 .have hr:=hx;clear hx hy;refine kHa ?_;refine zJa rfl (zLa (d:=3) rfl rfl via) ?_;refine zJa rfl (zLa (d:=4) rfl rfl (ev_geq rfl rfl)) ?_;refine zJa rfl (zLa (d:=5) rfl rfl via)<|ZAa (decide ((-68719476736)<=a0)) (fun c2=>?_) (fun c2=>?_)
  .replace hr:=V8a c2 hr
   refine Q7a (d:=5) rfl rfl rfl c2 (zLa (d:=6) rfl rfl via) ?_;refine Q7a (d:=5) rfl rfl rfl c2 (zLa (d:=7) rfl rfl (ev_leq rfl rfl)) ?_;refine zJa rfl (zLa (d:=8) rfl rfl (V4a rfl c2)) ?_;refine zJa rfl (zLa (d:=2) rfl rfl vja) ?_;refine qGa ?_;cases hr;exact ZOa _ rfl (zea rfl zDa) zua
  replace hr:=V9a c2 hr
  refine Q8a (d:=5) rfl rfl rfl c2 ?_;refine Q8a (d:=5) rfl rfl rfl c2 ?_;refine zJa rfl (zLa (d:=8) rfl rfl (V5a rfl c2)) ?_;refine zJa rfl (zLa (d:=2) rfl rfl vja) ?_;refine qGa ?_;cases hr;exact ZOa _ rfl (zea rfl zDa) zua
 rintro _ rfl;have hr:=hy;clear hx hy;refine Q4a ?_;cases hr;exact kret' rfl (.cons (Vaa rfl) .nil) rfl
theorem yya(a0:UInt8)(r:Bool)(hr:vca a0=some r):Run prog 111 [.u8 a0] (.bo r):=by
 unfold vca at hr;refine rf (fn:=f111) ⟨func111,rfl,by kernel_rfl⟩ rfl (fun _=>rfl) fun g0 hg=>?_
 refine rn tk 5 rfl<|jb hr (fun j1=>[(2,.bo j1)]) (fun j1=>[]) (fun j1 hr=>?_) (fun j1 hr=>?_)
 .refine rn tk 4 rfl<|bs 5 hr rfl (fun c2 hr=>?_) (fun c2 hr=>?_)
  .refine rn tk 4 rfl<|bs 9 hr rfl (fun c3 hr=>?_) (fun c3 hr=>?_)
   .refine rn tk 17 rfl ?_;cases hr;exact jn _ rfl rfl rfl
   refine rn tk 3 rfl<|bs 12 hr rfl (fun c4 hr=>?_) (fun c4 hr=>?_)
   .refine rn tk 5 rfl<|bs 17 hr rfl (fun c5 hr=>?_) (fun c5 hr=>?_)
    .refine rn tk 9 rfl ?_;cases hr;exact jn _ rfl rfl rfl
    refine rn tk 3 rfl<|bs 20 hr rfl (fun c6 hr=>?_) (fun c6 hr=>?_)
    .refine rn tk 6 rfl ?_;cases hr;exact jn _ rfl rfl rfl
    refine rn tk 6 rfl ?_;cases hr;exact jn _ rfl rfl rfl
   refine rn tk 8 rfl<|bs 20 hr rfl (fun c7 hr=>?_) (fun c7 hr=>?_)
   .refine rn tk 6 rfl ?_;cases hr;exact jn _ rfl rfl rfl
   refine rn tk 6 rfl ?_;cases hr;exact jn _ rfl rfl rfl
  refine rn tk 7 rfl<|bs 12 hr rfl (fun c8 hr=>?_) (fun c8 hr=>?_)
  .refine rn tk 5 rfl<|bs 17 hr rfl (fun c9 hr=>?_) (fun c9 hr=>?_)
   .refine rn tk 9 rfl ?_;cases hr;exact jn _ rfl rfl rfl
   refine rn tk 3 rfl<|bs 20 hr rfl (fun c10 hr=>?_) (fun c10 hr=>?_)
   .refine rn tk 6 rfl ?_;cases hr;exact jn _ rfl rfl rfl
   refine rn tk 6 rfl ?_;cases hr;exact jn _ rfl rfl rfl
  refine rn tk 8 rfl<|bs 20 hr rfl (fun c11 hr=>?_) (fun c11 hr=>?_)
  .refine rn tk 6 rfl ?_;cases hr;exact jn _ rfl rfl rfl
  refine rn tk 6 rfl ?_;cases hr;exact jn _ rfl rfl rfl
 refine rn tk 1 rfl ?_;cases hr;exact kr tk (.inr rfl) rfl rfl
theorem Qpa(a0:Str)(r:Bool)(hr:wVa a0=some r):Run prog 86 [.s a0] (.bo r):=by
 unfold wVa at hr;refine rf (fn:=f86) ⟨func86,rfl,by kernel_rfl⟩ rfl (fun _=>rfl) fun g0 hg=>?_
 refine rn tk 5 rfl<|jb hr (fun j1=>[(2,.bo j1)]) (fun j1=>[]) (fun j1 hr=>?_) (fun j1 hr=>?_)
 .refine rn tk 4 rfl<|bs 5 hr rfl (fun c2 hr=>?_) (fun c2 hr=>?_)
  .refine rn tk 5 rfl<|bs 10 hr rfl (fun c3 hr=>?_) (fun c3 hr=>?_)
   .refine rn tk 1 rfl<|ug rfl rfl rfl<|ct hr (fun j4=>[(10,.bo true),(12,.bo j4)]) (fun j4=>[]) (fun j4 hr jump4=>?_) (fun j4 hr=>?_)
    .refine il (fn:=f109) (args:=[.s a0,.fn (.func 110) [] []]) 400000 499999 [(10,.bo true)] rfl ⟨func109,rfl,by kernel_rfl⟩ rfl rfl rfl fun T4 ds4=>?_
     refine rn tk 14 rfl<|al2 hr (fun s5=>[(0,.s a0),(1,.fn (.func 110) [] []),(7,.i ((a0.length:Int))),(8,.i s5)]) (fun s5=>[(499999,.sus g0.w.heap.size ds4),(400010,.hold (.bo true) (T4.getD 10 undef))]) (.exit 0) (fun b6=>[]) (fun b6=>[(499999,.sus g0.w.heap.size ds4),(400010,.hold (.bo true) (T4.getD 10 undef))]) .ret (fun b7=>[(4,.bo false)]) (fun b7=>[(499999,.sus g0.w.heap.size ds4),(400010,.hold (.bo true) (T4.getD 10 undef))]) rfl rfl (fun s5 x9 hr=>?_) (fun b6 hr=>?_) (fun b7 hr=>?_)
     .unfold vna at hr;refine rn tk 6 rfl<|ac 9 hr rfl (fun c10 hr=>?_) (fun c10 hr=>?_)
      .refine rn tk 15 rfl ?_;obtain ⟨v11,h12,hr⟩:=zaa hr;refine ws tk h12 rfl rfl rfl rfl<|il (fn:=f110) (args:=[.u8 v11]) 600000 699999 [(0,.s a0),(1,.fn (.func 110) [] []),(7,.i ((a0.length:Int))),(8,.i s5)] rfl ⟨func110,rfl,by kernel_rfl⟩ rfl rfl rfl fun T6 ds6=>?_
       refine rn tk 5 rfl<|jb hr (fun j13=>[(2,.bo j13)]) (fun j13=>[(699999,.sus g0.w.heap.size ds6),(600000,.hold (.s a0) (T6.getD 0 undef)),(600001,.hold (.fn (.func 110) [] []) (T6.getD 1 undef)),(600007,.hold (.i ((a0.length:Int))) (T6.getD 7 undef)),(600008,.hold (.i s5) (T6.getD 8 undef)),(499999,.sus g0.w.heap.size ds4),(400010,.hold (.bo true) (T4.getD 10 undef))]) (fun j13 hr=>?_) (fun j13 hr=>?_)
       .refine rn tk 2 rfl ?_;obtain ⟨v14,h15,hr⟩:=zaa hr;refine cl (yya _ _ h15) rfl rfl<|rn tk 1 rfl<|bs 5 hr rfl (fun c16 hr=>?_) (fun c16 hr=>?_)
        .refine rn tk 13 rfl ?_;cases hr;exact jn _ rfl rfl rfl
        refine rn tk 4 rfl<|bs 9 hr rfl (fun c17 hr=>?_) (fun c17 hr=>?_)
        .refine rn tk 9 rfl ?_;cases hr;exact jn _ rfl rfl rfl
        refine rn tk 4 rfl<|bs 13 hr rfl (fun c18 hr=>?_) (fun c18 hr=>?_)
        .refine rn tk 5 rfl ?_;cases hr;exact jn _ rfl rfl rfl
        refine rn tk 5 rfl ?_;cases hr;exact jn _ rfl rfl rfl
       refine rn tk 1 rfl ?_;refine ie tk [.bo j13] [(0,.s a0),(1,.fn (.func 110) [] []),(7,.i ((a0.length:Int))),(8,.i s5)] [(499999,.sus g0.w.heap.size ds4),(400010,.hold (.bo true) (T4.getD 10 undef))] (.inr rfl) rfl rfl rfl rfl (hO ?_);refine rn tk 3 rfl<|ac 16 hr rfl (fun c19 hr=>?_) (fun c19 hr=>?_)
       .refine rn tk 8 rfl ?_;cases hr;exact ato rfl rfl rfl rfl
       refine rn tk 7 rfl ?_;cases hr;exact atc rfl rfl
      refine rn tk 2 rfl ?_;cases hr;exact ato rfl rfl rfl rfl
     .refine rn tk 8 rfl ?_;refine ie tk [.bo true] [(10,.bo true)] [] (.inr rfl) rfl rfl rfl rfl ?_;cases hr;exact jump4 _ _ rfl rfl
     refine rn tk 2 rfl ?_;refine ie tk [.bo false] [(10,.bo true)] [] (.inr rfl) rfl rfl rfl rfl ?_;cases hr;exact jump4 _ _ rfl rfl
    refine rn tk 3 rfl ?_;cases hr;exact jn _ rfl rfl rfl
   refine rn tk 5 rfl ?_;cases hr;exact jn _ rfl rfl rfl
  refine rn tk 10 rfl ?_;cases hr;exact jn _ rfl rfl rfl
 refine rn tk 1 rfl ?_;cases hr;exact kr tk (.inr rfl) rfl rfl
end Go.Proofs.YtgajlblehdboiaaGreat
namespace Go.Proofs
open Go.Shelf
def Tryz.lays137_ren:Go.Shelf.Ren:=⟨fun | 137=>128 | 217=>136 | 266=>145 | n=>n,fun | 9=>9 | 5=>5 | 3=>3 | n=>n,fun | n=>n⟩
theorem Tryz.cqz{α:Type}{a:Option α}{x y:α}(h:a=some x)(e:x=y):a=some y:=h.trans (congrArg some e)
theorem Tryz.lays137:Go.Proofs.Lays.n137 prog Tryz.lays137_ren:=⟨by kernel_rfl,cqz func128 (by kernel_rfl),cqz func136 (by kernel_rfl),cqz func145 (by kernel_rfl),underlying3,isAgg3,sizeOf3,zeroValue3,underlying5,isAgg5,sizeOf5,zeroValue5,underlying9,isAgg9,sizeOf9,zeroValue9⟩
open Go.RowKit in
theorem Tryz.strings_IndexByte(s:ByteArray)(c:Int)(w:World):
 Calls prog 128 #[.string s,.int .u8 c] w fun e w' =>e=.returned (.int .i64 (Lib.indexByte s.data.toList c.toNat.toUInt8))/\w' =w:=Any.strings_IndexByte Tryz.lays137 s c w
def Tryz.lays122_ren:Go.Shelf.Ren:=⟨fun | 122=>49 | 215=>77 | n=>n,fun | 3=>3 | 4=>4 | n=>n,fun | n=>n⟩
theorem Tryz.lays122:Go.Proofs.Lays.n122 prog Tryz.lays122_ren:=⟨by kernel_rfl,cqz func49 (by kernel_rfl),cqz func77 (by kernel_rfl),underlying3,isAgg3,sizeOf3,zeroValue3,underlying4,isAgg4,sizeOf4,zeroValue4⟩
open Go.RowKit in
theorem Tryz.cmp_Compare_int(x y:Int)(w:World):
 Calls prog 49 #[.int .i64 x,.int .i64 y] w fun e w' =>e=.returned (.int .i64 (Lib.compareInt x y))/\w' =w:=Any.cmp_Compare_int Tryz.lays122 x y w
def Tryz.lays144_ren:Go.Shelf.Ren:=⟨fun | 144=>140 | 143=>148 | 219=>144 | 217=>136 | 225=>150 | 224=>151 | 267=>152 | 266=>145 | 314=>154 | n=>n,fun | 9=>9 | 4=>4 | 3=>3 | 5=>5 | 46=>124 | 146=>176 | 51=>146 | n=>n,fun | 1=>0 | n=>n⟩
theorem Tryz.lays144:Go.Proofs.Lays.n144 prog Tryz.lays144_ren:=⟨by kernel_rfl,cqz func148 (by kernel_rfl),cqz func140 (by kernel_rfl),cqz func136 (by kernel_rfl),cqz func144 (by kernel_rfl),cqz func151 (by kernel_rfl),cqz func150 (by kernel_rfl),cqz func145 (by kernel_rfl),cqz func152 (by kernel_rfl),cqz func154 (by kernel_rfl),underlying3,isAgg3,sizeOf3,zeroValue3,underlying4,isAgg4,sizeOf4,zeroValue4,underlying5,isAgg5,sizeOf5,zeroValue5,underlying9,isAgg9,sizeOf9,zeroValue9,underlying124,isAgg124,sizeOf124,zeroValue124,underlying146,isAgg146,sizeOf146,zeroValue146,underlying176,isAgg176,sizeOf176,zeroValue176,by kernel_rfl⟩
open Go.RowKit Go.Lib in
theorem Tryz.strings_Contains(s sub:ByteArray)(m:Int)(w:World)(hs:s.size < 4294967281)(hm:w.cell? ⟨0,0,none⟩=some (.int .i64 m)):
 Calls prog 140 #[.string s,.string sub] w fun e w' =>e=.returned (.bool (Lib.contains s.data.toList sub.data.toList))/\w' =w:=Any.strings_Contains Tryz.lays144 s sub m w hs hm
def Tryz.lays145_ren:Go.Shelf.Ren:=⟨fun | 145=>126 | 220=>135 | 219=>144 | 217=>136 | 225=>150 | 224=>151 | 267=>152 | 266=>145 | 314=>154 | n=>n,fun | 9=>9 | 4=>4 | 59=>149 | 3=>3 | 5=>5 | 46=>124 | 146=>176 | 51=>146 | n=>n,fun | 1=>0 | n=>n⟩
theorem Tryz.lays145:Go.Proofs.Lays.n145 prog Tryz.lays145_ren:=⟨by kernel_rfl,cqz func126 (by kernel_rfl),cqz func136 (by kernel_rfl),cqz func144 (by kernel_rfl),cqz func135 (by kernel_rfl),cqz func151 (by kernel_rfl),cqz func150 (by kernel_rfl),cqz func145 (by kernel_rfl),cqz func152 (by kernel_rfl),cqz func154 (by kernel_rfl),underlying3,isAgg3,sizeOf3,zeroValue3,underlying4,isAgg4,sizeOf4,zeroValue4,underlying5,isAgg5,sizeOf5,zeroValue5,underlying9,isAgg9,sizeOf9,zeroValue9,underlying124,isAgg124,sizeOf124,zeroValue124,underlying146,isAgg146,sizeOf146,zeroValue146,underlying149,isAgg149,sizeOf149,zeroValue149,underlying176,isAgg176,sizeOf176,zeroValue176,by kernel_rfl⟩
open Go.RowKit Go.Lib in
theorem Tryz.strings_Cut(s sep:ByteArray)(m:Int)(w:World)(hs:s.size < 4294967281)(hm:w.cell? ⟨0,0,none⟩=some (.int .i64 m)):
 Calls prog 126 #[.string s,.string sep] w fun e w' =>e=.returned (.tuple #[.string ⟨(Lib.cut s.data.toList sep.data.toList).1.toArray⟩,.string ⟨(Lib.cut s.data.toList sep.data.toList).2.1.toArray⟩,.bool (Lib.cut s.data.toList sep.data.toList).2.2])/\∃n,w' =w.drewN n:=Any.strings_Cut Tryz.lays145 s sep m w hs hm
def Tryz.lays99_ren:Go.Shelf.Ren:=⟨fun | 99=>138 | 206=>146 | n=>n,fun | 9=>9 | 4=>4 | 3=>3 | n=>n,fun | n=>n⟩
theorem Tryz.lays99:Go.Proofs.Lays.n99 prog Tryz.lays99_ren:=⟨by kernel_rfl,cqz func138 (by kernel_rfl),cqz func146 (by kernel_rfl),underlying3,isAgg3,sizeOf3,zeroValue3,underlying4,isAgg4,sizeOf4,zeroValue4,underlying9,isAgg9,sizeOf9,zeroValue9⟩
open Go.RowKit Go.Lib in
theorem Tryz.strings_HasPrefix(s p:ByteArray)(w:World):
 Calls prog 138 #[.string s,.string p] w fun e w' =>e=.returned (.bool (Lib.hasPrefix s.data.toList p.data.toList))/\w' =w:=Any.strings_HasPrefix Tryz.lays99 s p w
def Tryz.lays100_ren:Go.Shelf.Ren:=⟨fun | 100=>139 | 207=>147 | n=>n,fun | 9=>9 | 4=>4 | 3=>3 | n=>n,fun | n=>n⟩
theorem Tryz.lays100:Go.Proofs.Lays.n100 prog Tryz.lays100_ren:=⟨by kernel_rfl,cqz func139 (by kernel_rfl),cqz func147 (by kernel_rfl),underlying3,isAgg3,sizeOf3,zeroValue3,underlying4,isAgg4,sizeOf4,zeroValue4,underlying9,isAgg9,sizeOf9,zeroValue9⟩
open Go.RowKit Go.Lib in
theorem Tryz.strings_HasSuffix(s p:ByteArray)(w:World)(hs:s.size<=9223372036854775807):
 Calls prog 139 #[.string s,.string p] w fun e w' =>e=.returned (.bool (Lib.hasSuffix s.data.toList p.data.toList))/\w' =w:=Any.strings_HasSuffix Tryz.lays100 s p w hs
def Tryz.lays226_ren:Go.Shelf.Ren:=⟨fun | 226=>156 | n=>n,fun | 3=>3 | 4=>4 | n=>n,fun | n=>n⟩
theorem Tryz.lays226:Go.Proofs.Lays.n226 prog Tryz.lays226_ren:=⟨by kernel_rfl,cqz func156 (by kernel_rfl),underlying3,isAgg3,sizeOf3,zeroValue3,underlying4,isAgg4,sizeOf4,zeroValue4⟩
open Go.RowKit Go.Lib in
theorem Tryz.strings_shouldUseASCIISet(n:Int)(w:World):
 Calls prog 156 #[.int .i64 n] w fun e w' =>e=.returned (.bool (decide (8 < n)))/\w' =w:=Any.strings_shouldUseASCIISet Tryz.lays226 n w
def Tryz.lays153_ren:Go.Shelf.Ren:=⟨fun | 153=>153 | 152=>155 | 226=>156 | 227=>157 | 228=>158 | 137=>128 | 119=>159 | 224=>151 | 225=>150 | 217=>136 | 266=>145 | n=>n,fun | 9=>9 | 3=>3 | 4=>4 | 5=>5 | 21=>21 | 117=>181 | 116=>180 | 0=>0 | 46=>124 | 124=>184 | n=>n,fun | n=>n⟩
theorem Tryz.lays153:Go.Proofs.Lays.n153 prog Tryz.lays153_ren:=⟨by kernel_rfl,cqz func159 (by kernel_rfl),cqz func128 (by kernel_rfl),cqz func155 (by kernel_rfl),cqz func153 (by kernel_rfl),cqz func136 (by kernel_rfl),cqz func151 (by kernel_rfl),cqz func150 (by kernel_rfl),cqz func156 (by kernel_rfl),cqz func157 (by kernel_rfl),cqz func158 (by kernel_rfl),cqz func145 (by kernel_rfl),underlying0,isAgg0,sizeOf0,zeroValue0,underlying3,isAgg3,sizeOf3,zeroValue3,underlying4,isAgg4,sizeOf4,zeroValue4,underlying5,isAgg5,sizeOf5,zeroValue5,underlying9,isAgg9,sizeOf9,zeroValue9,underlying21,isAgg21,sizeOf21,zeroValue21,underlying124,isAgg124,sizeOf124,zeroValue124,underlying180,isAgg180,sizeOf180,underlying181,isAgg181,sizeOf181,zeroValue181,underlying184,isAgg184,sizeOf184,zeroValue184⟩
open Go.RowKit Go.Lib in
theorem Tryz.strings_IndexAny_long(hv116:∀w,(zeroValue 180).run prog w=.ok (.agg (Array.replicate 256 (.bool false))) w)(s chars:ByteArray)(w:World)(h2:2<=chars.size)(h8:8 < s.size)(hs:s.size < 4294967281)(hcs:chars.size < 4294967281)(hascii:∀(j:Nat) b,chars.data.toList[j]? =some b->b.toNat < 128):
 Calls prog 153 #[.string s,.string chars] w fun e w' =>e=.returned (.int .i64 (Lib.indexAny s.data.toList chars.data.toList))/\w' =((w.alloc (.cells (Lib.setCells chars.data.toList) 180)).alloc (.cells (Lib.setCells chars.data.toList) 180)):=Any.strings_IndexAny_long Tryz.lays153 hv116 (by kernel_rfl) s chars w h2 h8 hs hcs hascii
open Go.RowKit Go.Lib in
theorem Tryz.strings_IndexAny(hv116:∀w,(zeroValue 180).run prog w=.ok (.agg (Array.replicate 256 (.bool false))) w)(s chars:ByteArray)(w:World)(hs:s.size < 4294967281)(hcs:chars.size < 4294967281)(has:∀(j:Nat) b,s.data.toList[j]? =some b->b.toNat < 128)(hac:∀(j:Nat) b,chars.data.toList[j]? =some b->b.toNat < 128):
 Calls prog 153 #[.string s,.string chars] w fun e w' =>e=.returned (.int .i64 (Lib.indexAny s.data.toList chars.data.toList))/\Below w.heap.size w w' :=Any.strings_IndexAny Tryz.lays153 hv116 (by kernel_rfl) s chars w hs hcs has hac
def Tryz.lays150_ren:Go.Shelf.Ren:=⟨fun | 150=>149 | 153=>153 | 152=>155 | 226=>156 | 227=>157 | 228=>158 | 137=>128 | 119=>159 | 224=>151 | 225=>150 | 217=>136 | 266=>145 | n=>n,fun | 9=>9 | 4=>4 | 3=>3 | 5=>5 | 21=>21 | 117=>181 | 116=>180 | 0=>0 | 46=>124 | 124=>184 | n=>n,fun | n=>n⟩
theorem Tryz.lays150:Go.Proofs.Lays.n150 prog Tryz.lays150_ren:=⟨by kernel_rfl,cqz func159 (by kernel_rfl),cqz func128 (by kernel_rfl),cqz func149 (by kernel_rfl),cqz func155 (by kernel_rfl),cqz func153 (by kernel_rfl),cqz func136 (by kernel_rfl),cqz func151 (by kernel_rfl),cqz func150 (by kernel_rfl),cqz func156 (by kernel_rfl),cqz func157 (by kernel_rfl),cqz func158 (by kernel_rfl),cqz func145 (by kernel_rfl),underlying0,isAgg0,sizeOf0,zeroValue0,underlying3,isAgg3,sizeOf3,zeroValue3,underlying4,isAgg4,sizeOf4,zeroValue4,underlying5,isAgg5,sizeOf5,zeroValue5,underlying9,isAgg9,sizeOf9,zeroValue9,underlying21,isAgg21,sizeOf21,zeroValue21,underlying124,isAgg124,sizeOf124,zeroValue124,underlying180,isAgg180,sizeOf180,underlying181,isAgg181,sizeOf181,zeroValue181,underlying184,isAgg184,sizeOf184,zeroValue184⟩
open Go.RowKit Go.Lib in
theorem Tryz.strings_ContainsAny(hv116:∀w,(zeroValue 180).run prog w=.ok (.agg (Array.replicate 256 (.bool false))) w)(s chars:ByteArray)(w:World)(hs:s.size < 4294967281)(hcs:chars.size < 4294967281)(has:∀(j:Nat) b,s.data.toList[j]? =some b->b.toNat < 128)(hac:∀(j:Nat) b,chars.data.toList[j]? =some b->b.toNat < 128):
 Calls prog 149 #[.string s,.string chars] w fun e w' =>e=.returned (.bool (Lib.containsAny s.data.toList chars.data.toList))/\Below w.heap.size w w' :=Any.strings_ContainsAny Tryz.lays150 hv116 (by kernel_rfl) s chars w hs hcs has hac
def Tryz.sortEntry_ren:Go.Shelf.Ren:=⟨fun | 6=>46 | 15=>76 | 14=>75 | 28=>104 | 29=>105 | 20=>96 | 21=>97 | 22=>98 | 23=>99 | 24=>100 | 25=>101 | 26=>102 | 27=>103 | 46=>121 | 47=>122 | 48=>123 | 49=>124 | 50=>125 | 57=>134 | n=>n,fun | 22=>22 | 24=>57 | 25=>87 | 3=>3 | 39=>124 | 0=>0 | 53=>146 | 55=>148 | 4=>4 | 46=>139 | 45=>138 | 50=>143 | 5=>5 | 9=>9 | 66=>161 | 70=>165 | 76=>171 | 77=>172 | n=>n,fun | n=>n⟩
theorem Tryz.sortEntry:Go.Proofs.SlLaysF0.n6 prog Tryz.sortEntry_ren:={mixed:=by kernel_rfl,f6:=⟨Tryz.f46.name,by decide,func46.trans (congrArg some (by kernel_rfl))⟩,f14:=⟨f75.name,by decide,func75.trans (congrArg some (by kernel_rfl))⟩,f15:=cqz func76 (by kernel_rfl),f20:=⟨f96.name,by decide,func96.trans (congrArg some (by kernel_rfl))⟩,f21:=⟨f97.name,by decide,func97.trans (congrArg some (by kernel_rfl))⟩,f22:=⟨f98.name,by decide,func98.trans (congrArg some (by kernel_rfl))⟩,f23:=⟨Tryz.f99.name,by decide,func99.trans (congrArg some (by kernel_rfl))⟩,f24:=⟨Tryz.f100.name,by decide,func100.trans (congrArg some (by kernel_rfl))⟩,f25:=⟨f101.name,by decide,func101.trans (congrArg some (by kernel_rfl))⟩,f26:=⟨f102.name,by decide,func102.trans (congrArg some (by kernel_rfl))⟩,f27:=⟨f103.name,by decide,func103.trans (congrArg some (by kernel_rfl))⟩,f28:=cqz func104 (by kernel_rfl),f29:=cqz func105 (by kernel_rfl),f46:=⟨f121.name,by decide,func121.trans (congrArg some (by kernel_rfl))⟩,f47:=cqz func122 (by kernel_rfl),f48:=cqz func123 (by kernel_rfl),f49:=⟨f124.name,by decide,func124.trans (congrArg some (by kernel_rfl))⟩,f50:=⟨f125.name,by decide,func125.trans (congrArg some (by kernel_rfl))⟩,f57:=⟨f134.name,by decide,func134.trans (congrArg some (by kernel_rfl))⟩,t0:=underlying0,a0:=isAgg0,z0:=sizeOf0,v0:=zeroValue0,t3:=underlying3,a3:=isAgg3,z3:=sizeOf3,v3:=zeroValue3,t4:=underlying4,a4:=isAgg4,z4:=sizeOf4,v4:=zeroValue4,t5:=underlying5,a5:=isAgg5,z5:=sizeOf5,v5:=zeroValue5,t9:=underlying9,a9:=isAgg9,z9:=sizeOf9,v9:=zeroValue9,t22:=underlying22,a22:=isAgg22,z22:=sizeOf22,v22:=zeroValue22,t25:=underlying87,a25:=isAgg87,z25:=sizeOf87,v25:=zeroValue87,t39:=underlying124,a39:=isAgg124,z39:=sizeOf124,v39:=zeroValue124,t45:=underlying138,a45:=isAgg138,z45:=sizeOf138,v45:=zeroValue138,t46:=underlying139,a46:=isAgg139,z46:=sizeOf139,v46:=zeroValue139,t50:=underlying143,a50:=isAgg143,z50:=sizeOf143,v50:=zeroValue143,t53:=underlying146,a53:=isAgg146,z53:=sizeOf146,v53:=zeroValue146,t55:=underlying148,a55:=isAgg148,z55:=sizeOf148,v55:=zeroValue148,t66:=underlying161,a66:=isAgg161,z66:=sizeOf161,v66:=zeroValue161,t70:=underlying165,a70:=isAgg165,z70:=sizeOf165,v70:=zeroValue165,t76:=underlying171,a76:=isAgg171,z76:=sizeOf171,v76:=zeroValue171,t77:=underlying172,a77:=isAgg172,z77:=sizeOf172,v77:=zeroValue172}
end Go.Proofs
namespace Go.Proofs.YtgajlblehdboiaaGreat
open Go.RowKit Go.Proofs.Tryz
theorem kKb(g:G)(q:Nat):Old (fun _=>False) g ⟨g.w.drewN q,g.u,g.loc⟩:=
 ⟨rfl,rfl,rfl,⟨Nat.le_refl _,fun _ _=>Nat.le_refl _,fun _ _ _ _=>rfl,fun _ h=>h⟩,fun _ _ _=>⟨rfl,rfl⟩⟩
theorem jRa{g:G}{s:Str}{v:Value}(h:Rel g (.s s) v):v=.string (strB s):=kea h
theorem K4a(s t:Str)(r:Str × Str × Bool)(hr:q8a s t=some r):Run prog 126 [.s s,.s t] (.tup [.s r.1,.s r.2.1,.bo r.2.2]):=by
 unfold q8a at hr;split at hr
 case isFalse=>cases hr
 rename_i hlen;cases hr;refine ⟨⟨_,_,⟨func126,rfl,by kernel_rfl⟩⟩,fun g vs hw hg ha=>?_⟩;obtain ⟨hsz,hrel⟩:=ha;obtain ⟨l⟩:=vs
 match l,hsz with
 | [x,y],_=>
  obtain rfl:=jRa (hrel 0 _ rfl);obtain rfl:=jRa (hrel 1 _ rfl);obtain ⟨_,_,m,hm⟩:=hg.1 (0,0) (by simp[globs]);refine callsIn_wide.2 ((Tryz.strings_Cut (strB s) (strB t) m g.w (by rw[z5a];exact hlen) hm).mono ?_);rintro e w' ⟨rfl,q,rfl⟩;refine ⟨⟨g.w.drewN q,g.u,g.loc⟩,_,rfl,rfl,kKb g q,hw,rfl,.tup rfl fun i c hi=>?_⟩
  match i,hi with
  | 0,rfl=>exact .pv (.b rfl)
  | 1,rfl=>exact .pv (.b rfl)
  | 2,rfl=>exact .pv (.b rfl)
theorem qEa(s:Str)(c:UInt8)(r:Int)(hr:zNa s c=some r):Run prog 128 [.s s,.u8 c] (.i r):=by
 unfold zNa at hr;cases hr;refine ⟨⟨_,_,⟨func128,rfl,by kernel_rfl⟩⟩,fun g vs hw hg ha=>?_⟩;obtain ⟨hsz,hrel⟩:=ha;obtain ⟨l⟩:=vs
 match l,hsz with
 | [x,y],_=>
  obtain rfl:=jRa (hrel 0 _ rfl);have e2:y=.int .u8 (c.toNat:Int):=kea (hrel 1 _ rfl);subst e2;refine callsIn_wide.2 ((Tryz.strings_IndexByte (strB s) (c.toNat:Int) g.w).mono ?_);rintro e w' ⟨rfl,rfl⟩;refine ⟨g,_,rfl,rfl,Old.refl _ g,hw,rfl,?_⟩;simp[strB];exact .pv (.b rfl)
theorem jka(s t:Str)(r:Bool)(hr:kwa s t=some r):Run prog 140 [.s s,.s t] (.bo r):=by
 unfold kwa at hr;split at hr
 case isFalse=>cases hr
 rename_i hlen;cases hr;refine ⟨⟨_,_,⟨func140,rfl,by kernel_rfl⟩⟩,fun g vs hw hg ha=>?_⟩;obtain ⟨hsz,hrel⟩:=ha;obtain ⟨l⟩:=vs
 match l,hsz with
 | [x,y],_=>
  obtain rfl:=jRa (hrel 0 _ rfl);obtain rfl:=jRa (hrel 1 _ rfl);obtain ⟨_,_,m,hm⟩:=hg.1 (0,0) (by simp[globs]);refine callsIn_wide.2 ((Tryz.strings_Contains (strB s) (strB t) m g.w (by rw[z5a];exact hlen) hm).mono ?_);rintro e w' ⟨rfl,rfl⟩;exact ⟨g,_,rfl,rfl,Old.refl _ g,hw,rfl,.pv (.b rfl)⟩
theorem vea(a0:Str)(a1:Str)(r:Bool)(hr:zWa a0 a1=some r):Run prog 146 [.s a0,.s a1] (.bo r):=by
 unfold zWa at hr;refine rf (fn:=f146) ⟨func146,rfl,by kernel_rfl⟩ rfl (fun _=>rfl) fun g0 hg=>?_
 refine rn tk 5 rfl<|jb hr (fun j1=>[(4,.bo j1)]) (fun j1=>[]) (fun j1 hr=>?_) (fun j1 hr=>?_)
 .refine rn tk 7 rfl<|bs 10 hr rfl (fun c2 hr=>?_) (fun c2 hr=>?_)
  .refine rn tk 3 rfl ?_;obtain ⟨v3,h4,hr⟩:=zaa hr;refine ug rfl rfl rfl<|wscH tk h4 rfl rfl rfl rfl<|rn tk 5 rfl ?_;cases hr;exact jn _ rfl rfl rfl
  refine rn tk 9 rfl ?_;cases hr;exact jn _ rfl rfl rfl
 refine rn tk 1 rfl ?_;cases hr;exact kr tk (.inr rfl) rfl rfl
theorem yYa(a0:Str)(a1:Str)(r:Bool)(hr:kpa a0 a1=some r):Run prog 138 [.s a0,.s a1] (.bo r):=by
 unfold kpa at hr;refine rf (fn:=f138) ⟨func138,rfl,by kernel_rfl⟩ rfl (fun _=>rfl) fun g0 hg=>?_
 refine rn tk 9 rfl ?_;obtain ⟨v1,h2,hr⟩:=zaa hr;refine cl (vea _ _ _ h2) rfl rfl<|rn tk 4 rfl ?_;cases hr;exact kr tk (.inr rfl) rfl rfl
theorem vfa(a0:Str)(a1:Str)(r:Bool)(hr:zXa a0 a1=some r):Run prog 147 [.s a0,.s a1] (.bo r):=by
 unfold zXa at hr;refine rf (fn:=f147) ⟨func147,rfl,by kernel_rfl⟩ rfl (fun _=>rfl) fun g0 hg=>?_
 refine rn tk 5 rfl<|jb hr (fun j1=>[(4,.bo j1)]) (fun j1=>[]) (fun j1 hr=>?_) (fun j1 hr=>?_)
 .refine rn tk 7 rfl<|bs 10 hr rfl (fun c2 hr=>?_) (fun c2 hr=>?_)
  .refine rn tk 6 rfl ?_;obtain ⟨v3,h4,hr⟩:=zaa hr;refine ug rfl rfl rfl<|wscL tk h4 rfl rfl rfl rfl<|rn tk 5 rfl ?_;cases hr;exact jn _ rfl rfl rfl
  refine rn tk 12 rfl ?_;cases hr;exact jn _ rfl rfl rfl
 refine rn tk 1 rfl ?_;cases hr;exact kr tk (.inr rfl) rfl rfl
theorem yZa(a0:Str)(a1:Str)(r:Bool)(hr:kqa a0 a1=some r):Run prog 139 [.s a0,.s a1] (.bo r):=by
 unfold kqa at hr;refine rf (fn:=f139) ⟨func139,rfl,by kernel_rfl⟩ rfl (fun _=>rfl) fun g0 hg=>?_
 refine rn tk 9 rfl ?_;obtain ⟨v1,h2,hr⟩:=zaa hr;refine cl (vfa _ _ _ h2) rfl rfl<|rn tk 4 rfl ?_;cases hr;exact kr tk (.inr rfl) rfl rfl
theorem jSa(a0:Str)(r:Bool)(hr:qya a0=some r):Run prog 129 [.s a0] (.bo r):=by
 unfold qya at hr;refine rf (fn:=f129) ⟨func129,rfl,by kernel_rfl⟩ rfl (fun _=>rfl) fun g0 hg=>?_
 refine rn tk 10 rfl<|jb hr (fun j1=>[(2,.bo j1)]) (fun j1=>[]) (fun j1 hr=>?_) (fun j1 hr=>?_)
 .refine rn tk 4 rfl<|bs 6 hr rfl (fun c2 hr=>?_) (fun c2 hr=>?_)
  .refine rn tk 5 rfl<|bs 11 hr rfl (fun c3 hr=>?_) (fun c3 hr=>?_)
   .refine rn tk 2 rfl<|ug rfl rfl rfl<|ct hr (fun j4=>[(0,.s a0),(11,.bo true),(14,.bo j4)]) (fun j4=>[]) (fun j4 hr jump4=>?_) (fun j4 hr=>?_)
    .refine il (fn:=f109) (args:=[.s a0,.fn (.func 137) [] []]) 400000 499999 [(0,.s a0),(11,.bo true)] rfl ⟨func109,rfl,by kernel_rfl⟩ rfl rfl rfl fun T4 ds4=>?_
     refine rn tk 14 rfl<|al2 hr (fun s5=>[(0,.s a0),(1,.fn (.func 137) [] []),(7,.i ((a0.length:Int))),(8,.i s5)]) (fun s5=>[(499999,.sus g0.w.heap.size ds4),(400000,.hold (.s a0) (T4.getD 0 undef)),(400011,.hold (.bo true) (T4.getD 11 undef))]) (.exit 0) (fun b6=>[]) (fun b6=>[(499999,.sus g0.w.heap.size ds4),(400000,.hold (.s a0) (T4.getD 0 undef)),(400011,.hold (.bo true) (T4.getD 11 undef))]) .ret (fun b7=>[(4,.bo false)]) (fun b7=>[(499999,.sus g0.w.heap.size ds4),(400000,.hold (.s a0) (T4.getD 0 undef)),(400011,.hold (.bo true) (T4.getD 11 undef))]) rfl rfl (fun s5 x9 hr=>?_) (fun b6 hr=>?_) (fun b7 hr=>?_)
     .unfold kNa at hr;refine rn tk 6 rfl<|ac 9 hr rfl (fun c10 hr=>?_) (fun c10 hr=>?_)
      .refine rn tk 15 rfl ?_;obtain ⟨v11,h12,hr⟩:=zaa hr;refine ws tk h12 rfl rfl rfl rfl<|il (fn:=Tryz.f137) (args:=[.u8 v11]) 600000 699999 [(0,.s a0),(1,.fn (.func 137) [] []),(7,.i ((a0.length:Int))),(8,.i s5)] rfl ⟨func137,rfl,by kernel_rfl⟩ rfl rfl rfl fun T6 ds6=>?_
       refine rn tk 5 rfl<|jb hr (fun j13=>[(2,.bo j13)]) (fun j13=>[(699999,.sus g0.w.heap.size ds6),(600000,.hold (.s a0) (T6.getD 0 undef)),(600001,.hold (.fn (.func 137) [] []) (T6.getD 1 undef)),(600007,.hold (.i ((a0.length:Int))) (T6.getD 7 undef)),(600008,.hold (.i s5) (T6.getD 8 undef)),(499999,.sus g0.w.heap.size ds4),(400000,.hold (.s a0) (T4.getD 0 undef)),(400011,.hold (.bo true) (T4.getD 11 undef))]) (fun j13 hr=>?_) (fun j13 hr=>?_)
       .refine rn tk 4 rfl<|bs 5 hr rfl (fun c14 hr=>?_) (fun c14 hr=>?_)
        .refine rn tk 4 rfl<|bs 9 hr rfl (fun c15 hr=>?_) (fun c15 hr=>?_)
         .refine rn tk 17 rfl ?_;cases hr;exact jn _ rfl rfl rfl
         refine rn tk 3 rfl<|bs 12 hr rfl (fun c16 hr=>?_) (fun c16 hr=>?_)
         .refine rn tk 5 rfl<|bs 17 hr rfl (fun c17 hr=>?_) (fun c17 hr=>?_)
          .refine rn tk 9 rfl ?_;cases hr;exact jn _ rfl rfl rfl
          refine rn tk 4 rfl<|bs 21 hr rfl (fun c18 hr=>?_) (fun c18 hr=>?_)
          .refine rn tk 5 rfl ?_;cases hr;exact jn _ rfl rfl rfl
          refine rn tk 5 rfl ?_;cases hr;exact jn _ rfl rfl rfl
         refine rn tk 9 rfl<|bs 21 hr rfl (fun c19 hr=>?_) (fun c19 hr=>?_)
         .refine rn tk 5 rfl ?_;cases hr;exact jn _ rfl rfl rfl
         refine rn tk 5 rfl ?_;cases hr;exact jn _ rfl rfl rfl
        refine rn tk 7 rfl<|bs 12 hr rfl (fun c20 hr=>?_) (fun c20 hr=>?_)
        .refine rn tk 5 rfl<|bs 17 hr rfl (fun c21 hr=>?_) (fun c21 hr=>?_)
         .refine rn tk 9 rfl ?_;cases hr;exact jn _ rfl rfl rfl
         refine rn tk 4 rfl<|bs 21 hr rfl (fun c22 hr=>?_) (fun c22 hr=>?_)
         .refine rn tk 5 rfl ?_;cases hr;exact jn _ rfl rfl rfl
         refine rn tk 5 rfl ?_;cases hr;exact jn _ rfl rfl rfl
        refine rn tk 9 rfl<|bs 21 hr rfl (fun c23 hr=>?_) (fun c23 hr=>?_)
        .refine rn tk 5 rfl ?_;cases hr;exact jn _ rfl rfl rfl
        refine rn tk 5 rfl ?_;cases hr;exact jn _ rfl rfl rfl
       refine rn tk 1 rfl ?_;refine ie tk [.bo j13] [(0,.s a0),(1,.fn (.func 137) [] []),(7,.i ((a0.length:Int))),(8,.i s5)] [(499999,.sus g0.w.heap.size ds4),(400000,.hold (.s a0) (T4.getD 0 undef)),(400011,.hold (.bo true) (T4.getD 11 undef))] (.inr rfl) rfl rfl rfl rfl (hO ?_);refine rn tk 3 rfl<|ac 16 hr rfl (fun c24 hr=>?_) (fun c24 hr=>?_)
       .refine rn tk 8 rfl ?_;cases hr;exact ato rfl rfl rfl rfl
       refine rn tk 7 rfl ?_;cases hr;exact atc rfl rfl
      refine rn tk 2 rfl ?_;cases hr;exact ato rfl rfl rfl rfl
     .refine rn tk 8 rfl ?_;refine ie tk [.bo true] [(0,.s a0),(11,.bo true)] [] (.inr rfl) rfl rfl rfl rfl ?_;cases hr;exact jump4 _ _ rfl rfl
     refine rn tk 2 rfl ?_;refine ie tk [.bo false] [(0,.s a0),(11,.bo true)] [] (.inr rfl) rfl rfl rfl rfl ?_;cases hr;exact jump4 _ _ rfl rfl
    refine rn tk 2 rfl<|bs 16 hr rfl (fun c25 hr=>?_) (fun c25 hr=>?_)
    .refine rn tk 1 rfl ?_;obtain ⟨v26,h27,hr⟩:=zaa hr;refine ug rfl rfl rfl<|cl (yYa _ _ _ h27) rfl rfl<|rn tk 3 rfl<|bs 21 hr rfl (fun c28 hr=>?_) (fun c28 hr=>?_)
     .refine rn tk 1 rfl ?_;obtain ⟨v29,h30,hr⟩:=zaa hr;refine ug rfl rfl rfl<|cl (yZa _ _ _ h30) rfl rfl<|rn tk 3 rfl<|bs 26 hr rfl (fun c31 hr=>?_) (fun c31 hr=>?_)
      .refine rn tk 1 rfl ?_;obtain ⟨v32,h33,hr⟩:=zaa hr;refine ug rfl rfl rfl<|cl (jka _ _ _ h33) rfl rfl<|rn tk 4 rfl ?_;cases hr;exact jn _ rfl rfl rfl
      refine rn tk 6 rfl ?_;cases hr;exact jn _ rfl rfl rfl
     refine rn tk 11 rfl ?_;cases hr;exact jn _ rfl rfl rfl
    refine rn tk 16 rfl ?_;cases hr;exact jn _ rfl rfl rfl
   refine rn tk 21 rfl ?_;cases hr;exact jn _ rfl rfl rfl
  refine rn tk 26 rfl ?_;cases hr;exact jn _ rfl rfl rfl
 refine rn tk 1 rfl ?_;cases hr;exact kr tk (.inr rfl) rfl rfl
theorem wIa(a0:Str)(r:Str × Str × Bool)(hr:qqa a0=some r):Run prog 106 [.s a0] (.tup [.s r.1,.s r.2.1,.bo r.2.2]):=by
 unfold qqa at hr;refine rf (fn:=f106) ⟨func106,rfl,by kernel_rfl⟩ rfl (fun _=>rfl) fun g0 hg=>?_
 refine rn tk 10 rfl ?_;obtain ⟨v1,h2,hr⟩:=zaa hr;refine cl (K4a _ _ _ h2) rfl rfl<|rn tk 14 rfl<|jb hr (fun j3=>[(2,.s v1.1),(3,.s v1.2.1),(4,.bo j3)]) (fun j3=>[]) (fun j3 hr=>?_) (fun j3 hr=>?_)
 .refine rn tk 5 rfl<|bs 15 hr rfl (fun c4 hr=>?_) (fun c4 hr=>?_)
  .refine rn tk 4 rfl<|bs 19 hr rfl (fun c5 hr=>?_) (fun c5 hr=>?_)
   .refine rn tk 5 rfl<|bs 24 hr rfl (fun c6 hr=>?_) (fun c6 hr=>?_)
    .refine rn tk 2 rfl<|ug rfl rfl rfl<|ct hr (fun j7=>[(3,.s v1.2.1),(12,.s v1.1),(13,.s v1.2.1),(24,.bo true),(27,.bo j7)]) (fun j7=>[]) (fun j7 hr jump4=>?_) (fun j7 hr=>?_)
     .refine il (fn:=f109) (args:=[.s v1.1,.fn (.func 127) [] []]) 400000 499999 [(3,.s v1.2.1),(12,.s v1.1),(13,.s v1.2.1),(24,.bo true)] rfl ⟨func109,rfl,by kernel_rfl⟩ rfl rfl rfl fun T4 ds4=>?_
      refine rn tk 14 rfl<|al2 hr (fun s8=>[(0,.s v1.1),(1,.fn (.func 127) [] []),(7,.i ((v1.1.length:Int))),(8,.i s8)]) (fun s8=>[(499999,.sus g0.w.heap.size ds4),(400003,.hold (.s v1.2.1) (T4.getD 3 undef)),(400012,.hold (.s v1.1) (T4.getD 12 undef)),(400013,.hold (.s v1.2.1) (T4.getD 13 undef)),(400024,.hold (.bo true) (T4.getD 24 undef))]) (.exit 0) (fun b9=>[]) (fun b9=>[(499999,.sus g0.w.heap.size ds4),(400003,.hold (.s v1.2.1) (T4.getD 3 undef)),(400012,.hold (.s v1.1) (T4.getD 12 undef)),(400013,.hold (.s v1.2.1) (T4.getD 13 undef)),(400024,.hold (.bo true) (T4.getD 24 undef))]) .ret (fun b10=>[(4,.bo false)]) (fun b10=>[(499999,.sus g0.w.heap.size ds4),(400003,.hold (.s v1.2.1) (T4.getD 3 undef)),(400012,.hold (.s v1.1) (T4.getD 12 undef)),(400013,.hold (.s v1.2.1) (T4.getD 13 undef)),(400024,.hold (.bo true) (T4.getD 24 undef))]) rfl rfl (fun s8 x12 hr=>?_) (fun b9 hr=>?_) (fun b10 hr=>?_)
      .unfold k8a at hr;refine rn tk 6 rfl<|ac 9 hr rfl (fun c13 hr=>?_) (fun c13 hr=>?_)
       .refine rn tk 15 rfl ?_;obtain ⟨v14,h15,hr⟩:=zaa hr;refine ws tk h15 rfl rfl rfl rfl<|il (fn:=f127) (args:=[.u8 v14]) 600000 699999 [(0,.s v1.1),(1,.fn (.func 127) [] []),(7,.i ((v1.1.length:Int))),(8,.i s8)] rfl ⟨func127,rfl,by kernel_rfl⟩ rfl rfl rfl fun T6 ds6=>?_
        refine rn tk 5 rfl<|jb hr (fun j16=>[(2,.bo j16)]) (fun j16=>[(699999,.sus g0.w.heap.size ds6),(600000,.hold (.s v1.1) (T6.getD 0 undef)),(600001,.hold (.fn (.func 127) [] []) (T6.getD 1 undef)),(600007,.hold (.i ((v1.1.length:Int))) (T6.getD 7 undef)),(600008,.hold (.i s8) (T6.getD 8 undef)),(499999,.sus g0.w.heap.size ds4),(400003,.hold (.s v1.2.1) (T4.getD 3 undef)),(400012,.hold (.s v1.1) (T4.getD 12 undef)),(400013,.hold (.s v1.2.1) (T4.getD 13 undef)),(400024,.hold (.bo true) (T4.getD 24 undef))]) (fun j16 hr=>?_) (fun j16 hr=>?_)
        .refine rn tk 2 rfl ?_;obtain ⟨v17,h18,hr⟩:=zaa hr;refine cl (yya _ _ h18) rfl rfl<|rn tk 1 rfl<|bs 5 hr rfl (fun c19 hr=>?_) (fun c19 hr=>?_)
         .refine rn tk 6 rfl ?_;cases hr;exact jn _ rfl rfl rfl
         refine rn tk 1 rfl ?_;obtain ⟨v20,h21,hr⟩:=zaa hr;refine ug rfl rfl rfl<|cl (qEa _ _ _ h21) rfl rfl<|rn tk 4 rfl ?_;cases hr;exact jn _ rfl rfl rfl
        refine rn tk 1 rfl ?_;refine ie tk [.bo j16] [(0,.s v1.1),(1,.fn (.func 127) [] []),(7,.i ((v1.1.length:Int))),(8,.i s8)] [(499999,.sus g0.w.heap.size ds4),(400003,.hold (.s v1.2.1) (T4.getD 3 undef)),(400012,.hold (.s v1.1) (T4.getD 12 undef)),(400013,.hold (.s v1.2.1) (T4.getD 13 undef)),(400024,.hold (.bo true) (T4.getD 24 undef))] (.inr rfl) rfl rfl rfl rfl (hO ?_);refine rn tk 3 rfl<|ac 16 hr rfl (fun c22 hr=>?_) (fun c22 hr=>?_)
        .refine rn tk 8 rfl ?_;cases hr;exact ato rfl rfl rfl rfl
        refine rn tk 7 rfl ?_;cases hr;exact atc rfl rfl
       refine rn tk 2 rfl ?_;cases hr;exact ato rfl rfl rfl rfl
      .refine rn tk 8 rfl ?_;refine ie tk [.bo true] [(3,.s v1.2.1),(12,.s v1.1),(13,.s v1.2.1),(24,.bo true)] [] (.inr rfl) rfl rfl rfl rfl ?_;cases hr;exact jump4 _ _ rfl rfl
      refine rn tk 2 rfl ?_;refine ie tk [.bo false] [(3,.s v1.2.1),(12,.s v1.1),(13,.s v1.2.1),(24,.bo true)] [] (.inr rfl) rfl rfl rfl rfl ?_;cases hr;exact jump4 _ _ rfl rfl
     refine rn tk 2 rfl<|bs 29 hr rfl (fun c23 hr=>?_) (fun c23 hr=>?_)
     .refine rn tk 1 rfl ?_;obtain ⟨v24,h25,hr⟩:=zaa hr;refine ug rfl rfl rfl<|cl (jSa _ _ h25) rfl rfl<|rn tk 5 rfl ?_;cases hr;exact jn _ rfl rfl rfl
     refine rn tk 7 rfl ?_;cases hr;exact jn _ rfl rfl rfl
    refine rn tk 12 rfl ?_;cases hr;exact jn _ rfl rfl rfl
   refine rn tk 17 rfl ?_;cases hr;exact jn _ rfl rfl rfl
  refine rn tk 21 rfl ?_;cases hr;exact jn _ rfl rfl rfl
 refine rn tk 1 rfl ?_;cases hr;exact kr tk (.inr rfl) rfl rfl
theorem v9a(a0:Str)(r:Bool)(hr:kKa a0=some r):Run prog 85 [.s a0] (.bo r):=by
 unfold kKa at hr;refine rf (fn:=f85) ⟨func85,rfl,by kernel_rfl⟩ rfl (fun _=>rfl) fun g0 hg=>?_
 refine rn tk 8 rfl ?_;obtain ⟨v1,h2,hr⟩:=zaa hr;refine cl (wIa _ _ h2) rfl rfl<|rn tk 16 rfl ?_;cases hr;exact kr tk (.inr rfl) rfl rfl
theorem jTa(a0:Int)(r:Bool)(hr:qza a0=some r):Run prog 112 [.i a0] (.bo r):=by
 unfold qza at hr;refine rf (fn:=f112) ⟨func112,rfl,by kernel_rfl⟩ rfl (fun _=>rfl) fun g0 hg=>?_
 refine rn tk 5 rfl<|jb hr (fun j1=>[(2,.bo j1)]) (fun j1=>[]) (fun j1 hr=>?_) (fun j1 hr=>?_)
 .refine rn tk 4 rfl<|bs 5 hr rfl (fun c2 hr=>?_) (fun c2 hr=>?_)
  .refine rn tk 5 rfl ?_;cases hr;exact jn _ rfl rfl rfl
  refine rn tk 5 rfl ?_;cases hr;exact jn _ rfl rfl rfl
 refine rn tk 1 rfl ?_;cases hr;exact kr tk (.inr rfl) rfl rfl
theorem ypa(a0:List zca)(r:zra)(hr:kEa a0=some r):Run prog 87 [.l zca.pc a0] (.agg [.i r.Code,.i r.Index]):=by
 unfold kEa at hr;refine rf (fn:=f87) ⟨func87,rfl,by kernel_rfl⟩ rfl (fun _=>rfl) fun g0 hg=>?_
 refine rn tk 9 rfl<|wn tk rfl rfl rfl<|rn tk 4 rfl<|al2 hr (fun s1=>[(0,.l zca.pc a0),(2,.ptr 2 0),(5,.l zca.pc a0),(6,.i ((a0.length:Int))),(7,.i s1)]) (fun s1=>[(2,.cells [.i 0,.i 0])]) (.exit 0) (fun b2=>[(2,.ptr 2 0)]) (fun b2=>[(2,.cells [.i 0,.i 0])]) .ret (fun b3=>[(2,.ptr 2 0)]) (fun b3=>[(2,.cells [.i b3.Code,.i b3.Index])]) rfl rfl (fun s1 x5 hr=>?_) (fun b2 hr=>?_) (fun b3 hr=>?_)
 .unfold kGa at hr;refine rn tk 6 rfl<|ac 8 hr rfl (fun c6 hr=>?_) (fun c6 hr=>?_)
  .refine rn tk 7 rfl ?_;obtain ⟨v7,h8,hr⟩:=zaa hr;refine wi tk h8 rfl rfl rfl rfl rfl<|rn tk 11 rfl ?_;obtain ⟨v9,h10,hr⟩:=zaa hr;refine cl (v9a _ _ h10) rfl rfl<|rn tk 4 rfl<|ac 12 hr rfl (fun c11 hr=>?_) (fun c11 hr=>?_)
   .refine rn tk 3 rfl ?_;obtain ⟨v12,h13,hr⟩:=zaa hr;refine cl (zja _ _ _ h13) rfl rfl<|rn tk 7 rfl ?_;cases hr;exact ato rfl rfl rfl rfl
   refine rn tk 4 rfl ?_;obtain ⟨v14,h15,hr⟩:=zaa hr;refine cl (jTa _ _ h15) rfl rfl<|rn tk 4 rfl<|ac 19 hr rfl (fun c16 hr=>?_) (fun c16 hr=>?_)
   .refine rn tk 3 rfl ?_;obtain ⟨v17,h18,hr⟩:=zaa hr;refine cl (zja _ _ _ h18) rfl rfl<|rn tk 7 rfl ?_;cases hr;exact ato rfl rfl rfl rfl
   refine rn tk 4 rfl ?_;obtain ⟨v19,h20,hr⟩:=zaa hr;refine wlH tk h20 rfl rfl rfl (fun _=>rfl) rfl<|rn tk 1 rfl<|il (fn:=f113) (args:=[.l zca.pc v19,.fn (.func 114) [] [.ptr 4 0]]) 500000 599999 [(0,.l zca.pc a0),(2,.ptr 2 0),(3,.i s1),(5,.l zca.pc a0),(6,.i ((a0.length:Int))),(7,.i s1)] rfl ⟨func113,rfl,by kernel_rfl⟩ rfl rfl rfl fun T5 ds5=>?_
   refine rn tk 9 rfl<|ct hr (fun j21=>[(7,.i j21)]) (fun j21=>[(599999,.sus g0.w.heap.size ds5),(500000,.hold (.l zca.pc a0) (T5.getD 0 undef)),(500002,.hold (.ptr 2 0) (T5.getD 2 undef)),(500005,.hold (.l zca.pc a0) (T5.getD 5 undef)),(500006,.hold (.i ((a0.length:Int))) (T5.getD 6 undef)),(500007,.hold (.i s1) (T5.getD 7 undef)),(500003,.hold (.i s1) (T5.getD 3 undef)),(2,.cells [.i 0,.i 0])]) (fun j21 hr jump6=>?_) (fun j21 hr=>?_)
   .refine il (fn:=f130) (args:=[.l zca.pc v19,.fn (.func 114) [] [.ptr 4 0]]) 600000 699999 [] rfl ⟨func130,rfl,by kernel_rfl⟩ rfl rfl rfl fun T6 ds6=>?_
    refine rn tk 9 rfl<|wn tk rfl rfl rfl<|rn tk 4 rfl<|al2 hr (fun s22=>[(0,.l zca.pc v19),(1,.fn (.func 114) [] [.ptr 4 0]),(7,.i ((v19.length:Int))),(8,.i s22)]) (fun s22=>[(699999,.sus g0.w.heap.size ds6),(599999,.sus g0.w.heap.size ds5),(500000,.hold (.l zca.pc a0) (T5.getD 0 undef)),(500002,.hold (.ptr 2 0) (T5.getD 2 undef)),(500005,.hold (.l zca.pc a0) (T5.getD 5 undef)),(500006,.hold (.i ((a0.length:Int))) (T5.getD 6 undef)),(500007,.hold (.i s1) (T5.getD 7 undef)),(500003,.hold (.i s1) (T5.getD 3 undef)),(4,.cells [.s v7.Address,.i v7.Notify]),(2,.cells [.i 0,.i 0])]) (.exit 0) (fun b23=>[]) (fun b23=>[(699999,.sus g0.w.heap.size ds6),(599999,.sus g0.w.heap.size ds5),(500000,.hold (.l zca.pc a0) (T5.getD 0 undef)),(500002,.hold (.ptr 2 0) (T5.getD 2 undef)),(500005,.hold (.l zca.pc a0) (T5.getD 5 undef)),(500006,.hold (.i ((a0.length:Int))) (T5.getD 6 undef)),(500007,.hold (.i s1) (T5.getD 7 undef)),(500003,.hold (.i s1) (T5.getD 3 undef)),(2,.cells [.i 0,.i 0])]) .ret (fun b24=>[(4,.i b24)]) (fun b24=>[(699999,.sus g0.w.heap.size ds6),(599999,.sus g0.w.heap.size ds5),(500000,.hold (.l zca.pc a0) (T5.getD 0 undef)),(500002,.hold (.ptr 2 0) (T5.getD 2 undef)),(500005,.hold (.l zca.pc a0) (T5.getD 5 undef)),(500006,.hold (.i ((a0.length:Int))) (T5.getD 6 undef)),(500007,.hold (.i s1) (T5.getD 7 undef)),(500003,.hold (.i s1) (T5.getD 3 undef)),(2,.cells [.i 0,.i 0])]) rfl rfl (fun s22 x26 hr=>?_) (fun b23 hr=>?_) (fun b24 hr=>?_)
    .unfold kka at hr;refine rn tk 6 rfl<|ac 9 hr rfl (fun c27 hr=>?_) (fun c27 hr=>?_)
     .refine rn tk 15 rfl ?_;obtain ⟨v28,h29,hr⟩:=zaa hr;refine wi tk h29 rfl rfl rfl rfl rfl<|rn tk 1 rfl<|il (fn:=f114) (args:=[.agg [.s v28.Address,.i v28.Notify],.ptr 4 0]) 800000 899999 [(0,.l zca.pc v19),(1,.fn (.func 114) [] [.ptr 4 0]),(5,.i s22),(7,.i ((v19.length:Int))),(8,.i s22)] rfl ⟨func114,rfl,by kernel_rfl⟩ rfl rfl rfl fun T8 ds8=>?_
      refine rn tk 2 rfl<|wo (Kaa (k:=2) 1002 rfl rfl rfl rfl rfl) rfl<|rn tk 14 rfl ?_;refine ie tk [.bo ((v28.Address==v7.Address))] [(0,.l zca.pc v19),(1,.fn (.func 114) [] [.ptr 4 0]),(5,.i s22),(7,.i ((v19.length:Int))),(8,.i s22)] [(1002,.cells [.s v28.Address,.i v28.Notify]),(699999,.sus g0.w.heap.size ds6),(599999,.sus g0.w.heap.size ds5),(500000,.hold (.l zca.pc a0) (T5.getD 0 undef)),(500002,.hold (.ptr 2 0) (T5.getD 2 undef)),(500005,.hold (.l zca.pc a0) (T5.getD 5 undef)),(500006,.hold (.i ((a0.length:Int))) (T5.getD 6 undef)),(500007,.hold (.i s1) (T5.getD 7 undef)),(500003,.hold (.i s1) (T5.getD 3 undef)),(4,.cells [.s v7.Address,.i v7.Notify]),(2,.cells [.i 0,.i 0])] (.inr rfl) rfl rfl rfl rfl (hO ?_);refine rn tk 2 rfl<|ac 16 hr rfl (fun c30 hr=>?_) (fun c30 hr=>?_)
      .refine rn tk 9 rfl ?_;cases hr;exact ato rfl rfl rfl rfl
      refine rn tk 7 rfl ?_;cases hr;exact atc rfl rfl
     refine rn tk 2 rfl ?_;cases hr;exact ato rfl rfl rfl rfl
    .refine rn tk 8 rfl ?_;refine ie tk [.i ((-1))] [] [(599999,.sus g0.w.heap.size ds5),(500000,.hold (.l zca.pc a0) (T5.getD 0 undef)),(500002,.hold (.ptr 2 0) (T5.getD 2 undef)),(500005,.hold (.l zca.pc a0) (T5.getD 5 undef)),(500006,.hold (.i ((a0.length:Int))) (T5.getD 6 undef)),(500007,.hold (.i s1) (T5.getD 7 undef)),(500003,.hold (.i s1) (T5.getD 3 undef)),(2,.cells [.i 0,.i 0])] (.inr rfl) rfl rfl rfl rfl ?_;cases hr;exact jump6 _ _ rfl rfl
    refine rn tk 2 rfl ?_;refine ie tk [.i b24] [] [(599999,.sus g0.w.heap.size ds5),(500000,.hold (.l zca.pc a0) (T5.getD 0 undef)),(500002,.hold (.ptr 2 0) (T5.getD 2 undef)),(500005,.hold (.l zca.pc a0) (T5.getD 5 undef)),(500006,.hold (.i ((a0.length:Int))) (T5.getD 6 undef)),(500007,.hold (.i s1) (T5.getD 7 undef)),(500003,.hold (.i s1) (T5.getD 3 undef)),(2,.cells [.i 0,.i 0])] (.inr rfl) rfl rfl rfl rfl ?_;cases hr;exact jump6 _ _ rfl rfl
   refine rn tk 5 rfl ?_;refine ie tk [.bo (decide (0<=j21))] [(0,.l zca.pc a0),(2,.ptr 2 0),(3,.i s1),(5,.l zca.pc a0),(6,.i ((a0.length:Int))),(7,.i s1)] [(2,.cells [.i 0,.i 0])] (.inr rfl) rfl rfl rfl rfl (hO ?_);refine rn tk 3 rfl<|ac 26 hr rfl (fun c31 hr=>?_) (fun c31 hr=>?_)
   .refine rn tk 3 rfl ?_;obtain ⟨v32,h33,hr⟩:=zaa hr;refine cl (zja _ _ _ h33) rfl rfl<|rn tk 7 rfl ?_;cases hr;exact ato rfl rfl rfl rfl
   refine rn tk 8 rfl ?_;cases hr;exact atc rfl rfl
  refine rn tk 2 rfl ?_;cases hr;exact ato rfl rfl rfl rfl
 .refine rn tk 4 rfl ?_;obtain ⟨v34,h35,hr⟩:=zaa hr;refine cl (zHa _ h35) rfl rfl<|rn tk 4 rfl ?_;cases hr;exact kr tk (.inr rfl) rfl rfl
 refine rn tk 2 rfl ?_;cases hr;exact kr tk (.inr rfl) rfl rfl
theorem y0a(a0:zya)(r:zra)(hr:k9a a0=some r):Run prog 64 [.agg [.s a0.From,.l zca.pc a0.To,.s a0.Id]] (.agg [.i r.Code,.i r.Index]):=by
 unfold k9a at hr;refine rf (fn:=f64) ⟨func64,rfl,by kernel_rfl⟩ rfl (fun _=>rfl) fun g0 hg=>?_
 refine rn tk 8 rfl<|jb hr (fun j1=>[(1,.ptr 1 0),(2,.ptr 2 0),(3,.bo j1)]) (fun j1=>[(2,.cells [.i 0,.i 0]),(1,.cells [.s a0.From,.l zca.pc a0.To,.s a0.Id])]) (fun j1 hr=>?_) (fun j1 hr=>?_)
 .refine rn tk 5 rfl<|bs 7 hr rfl (fun c2 hr=>?_) (fun c2 hr=>?_)
  .refine rn tk 2 rfl ?_;obtain ⟨v3,h4,hr⟩:=zaa hr;refine ug rfl rfl rfl<|cl (v9a _ _ h4) rfl rfl<|rn tk 4 rfl ?_;cases hr;exact jn _ rfl rfl rfl
  refine rn tk 7 rfl ?_;cases hr;exact jn _ rfl rfl rfl
 refine ac 3 hr rfl (fun c5 hr=>?_) (fun c5 hr=>?_)
 .refine rn tk 2 rfl ?_;obtain ⟨v6,h7,hr⟩:=zaa hr;refine cl (zja _ _ _ h7) rfl rfl<|rn tk 6 rfl ?_;cases hr;exact kr tk (.inr rfl) rfl rfl
 refine jb hr (fun j8=>[(1,.ptr 1 0),(2,.ptr 2 0),(14,.bo j8)]) (fun j8=>[(2,.cells [.i 0,.i 0]),(1,.cells [.s a0.From,.l zca.pc a0.To,.s a0.Id])]) (fun j8 hr=>?_) (fun j8 hr=>?_)
 .refine rn tk 3 rfl<|wn tk rfl rfl rfl<|rn tk 2 rfl<|bs 19 hr rfl (fun c9 hr=>?_) (fun c9 hr=>?_)
  .refine rn tk 7 rfl ?_;cases hr;exact jn _ rfl rfl rfl
  refine rn tk 2 rfl<|ug rfl rfl rfl<|wn tk rfl rfl rfl<|rn tk 4 rfl ?_;cases hr;exact jn _ rfl rfl rfl
 refine ac 14 hr rfl (fun c10 hr=>?_) (fun c10 hr=>?_)
 .refine rn tk 2 rfl ?_;obtain ⟨v11,h12,hr⟩:=zaa hr;refine cl (zja _ _ _ h12) rfl rfl<|rn tk 6 rfl ?_;cases hr;exact kr tk (.inr rfl) rfl rfl
 refine jb hr (fun j13=>[(1,.ptr 1 0),(2,.ptr 2 0),(26,.bo j13)]) (fun j13=>[(2,.cells [.i 0,.i 0]),(1,.cells [.s a0.From,.l zca.pc a0.To,.s a0.Id])]) (fun j13 hr=>?_) (fun j13 hr=>?_)
 .refine rn tk 5 rfl<|bs 30 hr rfl (fun c14 hr=>?_) (fun c14 hr=>?_)
  .refine rn tk 2 rfl ?_;obtain ⟨v15,h16,hr⟩:=zaa hr;refine ug rfl rfl rfl<|cl (Qpa _ _ h16) rfl rfl<|rn tk 4 rfl ?_;cases hr;exact jn _ rfl rfl rfl
  refine rn tk 7 rfl ?_;cases hr;exact jn _ rfl rfl rfl
 refine ac 26 hr rfl (fun c17 hr=>?_) (fun c17 hr=>?_)
 .refine rn tk 2 rfl ?_;obtain ⟨v18,h19,hr⟩:=zaa hr;refine cl (zja _ _ _ h19) rfl rfl<|rn tk 6 rfl ?_;cases hr;exact kr tk (.inr rfl) rfl rfl
 refine rn tk 7 rfl ?_;obtain ⟨v20,h21,hr⟩:=zaa hr;refine cl (ypa _ _ h21) rfl rfl<|rn tk 4 rfl ?_;cases hr;exact kr tk (.inr rfl) rfl rfl
theorem VVa(a0:Str)(r:Bool)(hr:yQa a0=some r):Run prog 131 [.s a0] (.bo r):=by
 unfold yQa at hr;refine rf (fn:=f131) ⟨func131,rfl,by kernel_rfl⟩ rfl (fun _=>rfl) fun g0 hg=>?_
 refine rn tk 5 rfl<|jb hr (fun j1=>[(2,.bo j1)]) (fun j1=>[]) (fun j1 hr=>?_) (fun j1 hr=>?_)
 .refine rn tk 4 rfl<|bs 5 hr rfl (fun c2 hr=>?_) (fun c2 hr=>?_)
  .refine rn tk 5 rfl<|bs 10 hr rfl (fun c3 hr=>?_) (fun c3 hr=>?_)
   .refine rn tk 1 rfl<|ug rfl rfl rfl<|ct hr (fun j4=>[(10,.bo true),(12,.bo j4)]) (fun j4=>[]) (fun j4 hr jump4=>?_) (fun j4 hr=>?_)
    .refine il (fn:=f109) (args:=[.s a0,.fn (.func 141) [] []]) 400000 499999 [(10,.bo true)] rfl ⟨func109,rfl,by kernel_rfl⟩ rfl rfl rfl fun T4 ds4=>?_
     refine rn tk 14 rfl<|al2 hr (fun s5=>[(0,.s a0),(1,.fn (.func 141) [] []),(7,.i ((a0.length:Int))),(8,.i s5)]) (fun s5=>[(499999,.sus g0.w.heap.size ds4),(400010,.hold (.bo true) (T4.getD 10 undef))]) (.exit 0) (fun b6=>[]) (fun b6=>[(499999,.sus g0.w.heap.size ds4),(400010,.hold (.bo true) (T4.getD 10 undef))]) .ret (fun b7=>[(4,.bo false)]) (fun b7=>[(499999,.sus g0.w.heap.size ds4),(400010,.hold (.bo true) (T4.getD 10 undef))]) rfl rfl (fun s5 x9 hr=>?_) (fun b6 hr=>?_) (fun b7 hr=>?_)
     .unfold vTa at hr;refine rn tk 6 rfl<|ac 9 hr rfl (fun c10 hr=>?_) (fun c10 hr=>?_)
      .refine rn tk 15 rfl ?_;obtain ⟨v11,h12,hr⟩:=zaa hr;refine ws tk h12 rfl rfl rfl rfl<|il (fn:=f141) (args:=[.u8 v11]) 600000 699999 [(0,.s a0),(1,.fn (.func 141) [] []),(7,.i ((a0.length:Int))),(8,.i s5)] rfl ⟨func141,rfl,by kernel_rfl⟩ rfl rfl rfl fun T6 ds6=>?_
       refine rn tk 5 rfl<|jb hr (fun j13=>[(2,.bo j13)]) (fun j13=>[(699999,.sus g0.w.heap.size ds6),(600000,.hold (.s a0) (T6.getD 0 undef)),(600001,.hold (.fn (.func 141) [] []) (T6.getD 1 undef)),(600007,.hold (.i ((a0.length:Int))) (T6.getD 7 undef)),(600008,.hold (.i s5) (T6.getD 8 undef)),(499999,.sus g0.w.heap.size ds4),(400010,.hold (.bo true) (T4.getD 10 undef))]) (fun j13 hr=>?_) (fun j13 hr=>?_)
       .refine rn tk 4 rfl<|bs 5 hr rfl (fun c14 hr=>?_) (fun c14 hr=>?_)
        .refine rn tk 4 rfl<|bs 9 hr rfl (fun c15 hr=>?_) (fun c15 hr=>?_)
         .refine rn tk 5 rfl ?_;cases hr;exact jn _ rfl rfl rfl
         refine rn tk 5 rfl ?_;cases hr;exact jn _ rfl rfl rfl
        refine rn tk 9 rfl ?_;cases hr;exact jn _ rfl rfl rfl
       refine rn tk 1 rfl ?_;refine ie tk [.bo j13] [(0,.s a0),(1,.fn (.func 141) [] []),(7,.i ((a0.length:Int))),(8,.i s5)] [(499999,.sus g0.w.heap.size ds4),(400010,.hold (.bo true) (T4.getD 10 undef))] (.inr rfl) rfl rfl rfl rfl (hO ?_);refine rn tk 3 rfl<|ac 16 hr rfl (fun c16 hr=>?_) (fun c16 hr=>?_)
       .refine rn tk 8 rfl ?_;cases hr;exact ato rfl rfl rfl rfl
       refine rn tk 7 rfl ?_;cases hr;exact atc rfl rfl
      refine rn tk 2 rfl ?_;cases hr;exact ato rfl rfl rfl rfl
     .refine rn tk 8 rfl ?_;refine ie tk [.bo true] [(10,.bo true)] [] (.inr rfl) rfl rfl rfl rfl ?_;cases hr;exact jump4 _ _ rfl rfl
     refine rn tk 2 rfl ?_;refine ie tk [.bo false] [(10,.bo true)] [] (.inr rfl) rfl rfl rfl rfl ?_;cases hr;exact jump4 _ _ rfl rfl
    refine rn tk 3 rfl ?_;cases hr;exact jn _ rfl rfl rfl
   refine rn tk 5 rfl ?_;cases hr;exact jn _ rfl rfl rfl
  refine rn tk 10 rfl ?_;cases hr;exact jn _ rfl rfl rfl
 refine rn tk 1 rfl ?_;cases hr;exact kr tk (.inr rfl) rfl rfl
theorem vva(a0:UInt8)(r:Bool)(hr:qAa a0=some r):Run prog 143 [.u8 a0] (.bo r):=by
 unfold qAa at hr;refine rf (fn:=Tryz.f143) ⟨func143,rfl,by kernel_rfl⟩ rfl (fun _=>rfl) fun g0 hg=>?_
 refine rn tk 5 rfl<|jb hr (fun j1=>[(2,.bo j1)]) (fun j1=>[]) (fun j1 hr=>?_) (fun j1 hr=>?_)
 .refine rn tk 4 rfl<|bs 5 hr rfl (fun c2 hr=>?_) (fun c2 hr=>?_)
  .refine rn tk 5 rfl ?_;cases hr;exact jn _ rfl rfl rfl
  refine rn tk 5 rfl ?_;cases hr;exact jn _ rfl rfl rfl
 refine rn tk 1 rfl ?_;cases hr;exact kr tk (.inr rfl) rfl rfl
theorem Qqa(a0:Str)(a1:Int)(r:Int)(hr:wXa a0 a1=some r):Run prog 133 [.s a0,.i a1] (.i r):=by
 unfold wXa at hr;refine rf (fn:=f133) ⟨func133,rfl,by kernel_rfl⟩ rfl (fun _=>rfl) fun g0 hg=>?_
 refine rn tk 14 rfl<|wq (ev_max rfl rfl) rfl rfl rfl<|rn tk 4 rfl<|al1 hr (fun s1=>[(0,.s a0),(5,.i s1.1),(6,.i s1.2)]) (fun s1=>[]) (.exit 0) (fun b2=>[(5,.i b2)]) (fun b2=>[]) rfl rfl (fun s1 x3 hr=>?_) (fun b2 hr=>?_)
 .unfold wca at hr;refine rn tk 9 rfl<|ac 12 hr rfl (fun c4 hr=>?_) (fun c4 hr=>?_)
  .refine rn tk 2 rfl<|jk (fun j5=>[(0,.s a0),(5,.i j5),(6,.i s1.2)]) (fun j5=>[]) (fun j5=>qfa s1 j5=some x3) ?_ ?_
   .refine rn tk 2 rfl<|jb hr (fun j6=>[(0,.s a0),(5,.i s1.1),(6,.i s1.2),(26,.bo j6)]) (fun j6=>[]) (fun j6 hr=>?_) (fun j6 hr=>?_)
    .refine rn tk 3 rfl ?_;obtain ⟨v7,h8,hr⟩:=zaa hr;refine ws tk h8 rfl rfl rfl rfl ?_;obtain ⟨v9,h10,hr⟩:=zaa hr;refine cl (vva _ _ h10) rfl rfl<|rn tk 2 rfl<|bs 20 hr rfl (fun c11 hr=>?_) (fun c11 hr=>?_)
     .refine rn tk 7 rfl ?_;cases hr;exact jn _ rfl rfl rfl
     refine rn tk 3 rfl ?_;obtain ⟨v12,h13,hr⟩:=zaa hr;refine ug rfl rfl rfl<|ws tk h13 rfl rfl rfl rfl ?_;obtain ⟨v14,h15,hr⟩:=zaa hr;refine ug rfl rfl rfl<|cl (vva _ _ h15) rfl rfl<|rn tk 2 rfl ?_;cases hr;exact jn _ rfl rfl rfl
    refine ac 26 hr rfl (fun c16 hr=>?_) (fun c16 hr=>?_)
    .refine rn tk 3 rfl<|jn s1.1 hr rfl rfl
    refine rn tk 3 rfl<|jb hr (fun j17=>[(0,.s a0),(5,.i s1.1),(6,.i s1.2),(32,.bo j17)]) (fun j17=>[]) (fun j17 hr=>?_) (fun j17 hr=>?_)
    .refine rn tk 4 rfl<|bs 29 hr rfl (fun c18 hr=>?_) (fun c18 hr=>?_)
     .refine rn tk 4 rfl ?_;cases hr;exact jn _ rfl rfl rfl
     refine rn tk 4 rfl ?_;cases hr;exact jn _ rfl rfl rfl
    refine ac 32 hr rfl (fun c19 hr=>?_) (fun c19 hr=>?_)
    .refine rn tk 4 rfl ?_;cases hr;exact ato rfl rfl rfl rfl
    refine rn tk 7 rfl<|jn s1.2 hr rfl rfl
   intro j5 hr;unfold qfa at hr;refine rn tk 5 rfl ?_;cases hr;exact atc rfl rfl
  refine rn tk 2 rfl ?_;cases hr;exact ato rfl rfl rfl rfl
 refine rn tk 9 rfl ?_;cases hr;exact kr tk (.inr rfl) rfl rfl
theorem wAa(a0:Int)(r:Bool)(hr:kja a0=some r):Run prog 159 [.pv (.b (.int .i32 a0))] (.bo r):=by
 unfold kja at hr;refine rf (fn:=f159) ⟨func159,rfl,by kernel_rfl⟩ rfl (fun _=>rfl) fun g0 hg=>?_
 refine rn tk 7 rfl<|jb hr (fun j1=>[(0,.pv (.b (.int .i32 a0))),(3,.bo j1)]) (fun j1=>[]) (fun j1 hr=>?_) (fun j1 hr=>?_)
 .refine rn tk 4 rfl<|bs 6 hr rfl (fun c2 hr=>?_) (fun c2 hr=>?_)
  .refine rn tk 5 rfl ?_;cases hr;exact jn _ rfl rfl rfl
  refine rn tk 5 rfl ?_;cases hr;exact jn _ rfl rfl rfl
 refine ac 3 hr rfl (fun c3 hr=>?_) (fun c3 hr=>?_)
 .refine rn tk 8 rfl ?_;cases hr;exact kr tk (.inr rfl) rfl rfl
 refine jb hr (fun j4=>[(10,.bo j4)]) (fun j4=>[]) (fun j4 hr=>?_) (fun j4 hr=>?_)
 .refine rn tk 4 rfl<|bs 13 hr rfl (fun c5 hr=>?_) (fun c5 hr=>?_)
  .refine rn tk 5 rfl ?_;cases hr;exact jn _ rfl rfl rfl
  refine rn tk 5 rfl ?_;cases hr;exact jn _ rfl rfl rfl
 refine ac 10 hr rfl (fun c6 hr=>?_) (fun c6 hr=>?_)
 .refine rn tk 8 rfl ?_;cases hr;exact kr tk (.inr rfl) rfl rfl
 refine rn tk 9 rfl ?_;cases hr;exact kr tk (.inr rfl) rfl rfl
theorem vYa(a0:Str)(a1:Int)(r:Int)(hr:z6a a0 a1=some r):Run prog 155 [.s a0,.pv (.b (.int .i32 a1))] (.i r):=by
 unfold z6a at hr;refine rf (fn:=f155) ⟨func155,rfl,by kernel_rfl⟩ rfl (fun _=>rfl) fun g0 hg=>?_
 refine rn tk 6 rfl<|jb hr (fun j1=>[(0,.s a0),(1,.pv (.b (.int .i32 a1))),(160,.bo j1)]) (fun j1=>[]) (fun j1 hr=>?_) (fun j1 hr=>?_)
 .refine rn tk 4 rfl<|bs 163 hr rfl (fun c2 hr=>?_) (fun c2 hr=>?_)
  .refine rn tk 5 rfl ?_;cases hr;exact jn _ rfl rfl rfl
  refine rn tk 5 rfl ?_;cases hr;exact jn _ rfl rfl rfl
 refine ac 160 hr rfl (fun c3 hr=>?_) (fun c3 hr=>?_)
 .refine rn tk 5 rfl ?_;obtain ⟨v4,h5,hr⟩:=zaa hr;refine cl (qEa _ _ _ h5) rfl rfl<|rn tk 5 rfl ?_;cases hr;exact kr tk (.inr rfl) rfl rfl
 refine rn tk 7 rfl<|ac 171 hr rfl (fun c6 hr=>?_) (fun c6 hr=>?_)
 .refine rn tk 4 rfl<|wr 1175 tk rfl rfl rfl rfl<|rn tk 3 rfl<|al2 hr (fun s7=>[(175,.ptr 1175 0)]) (fun s7=>[(1175,.it (strB a0) s7)]) (.exit 9) (fun b8=>[]) (fun b8=>[]) .ret (fun b9=>[(4,.i b9)]) (fun b9=>[]) rfl rfl (fun s7 x11 hr=>?_) (fun b8 hr=>?_) (fun b9 hr=>?_)
  .unfold k0a at hr;refine rn tk 2 rfl<|wnx hr rfl rfl rfl (fun c12 hr=>?_) (fun c12 hr=>?_)
   .refine rn tk 22 rfl<|ac 181 hr rfl (fun c13 hr=>?_) (fun c13 hr=>?_)
    .refine rn tk 8 rfl ?_;cases hr;exact ato rfl rfl rfl rfl
    refine rn tk 2 rfl ?_;cases hr;exact atc rfl rfl
   refine rn tk 7 rfl ?_;cases hr;exact ato rfl rfl rfl rfl
  .refine rn tk 9 rfl ?_;cases hr;exact kr tk (.inr rfl) rfl rfl
  refine rn tk 3 rfl ?_;cases hr;exact kr tk (.inr rfl) rfl rfl
 refine rn tk 3 rfl ?_;obtain ⟨v14,h15,hr⟩:=zaa hr;refine cl (wAa _ _ h15) rfl rfl<|rn tk 4 rfl<|ac 183 hr rfl (fun c16 hr=>?_) (fun c16 hr=>?_)
 .refine rn tk 7 rfl ?_;cases hr;exact kr tk (.inr rfl) rfl rfl
 refine rn tk 29 rfl<|al2 hr (fun s17=>[(0,.s a0),(7,.s ((vOa a1))),(8,.i ((w64 ((((vOa a1)).length:Int) - 1)))),(9,.i s17)]) (fun s17=>[]) (.exit 1) (fun b18=>[]) (fun b18=>[]) .ret (fun b19=>[(4,.i b19)]) (fun b19=>[]) rfl rfl (fun s17 x21 hr=>?_) (fun b18 hr=>?_) (fun b19 hr=>?_)
 .unfold k2a at hr;refine rn tk 9 rfl<|ac 26 hr rfl (fun c22 hr=>?_) (fun c22 hr=>?_)
  .refine rn tk 4 rfl<|jk (fun j23=>[(0,.s a0),(7,.s ((vOa a1))),(8,.i j23.1),(9,.i j23.2)]) (fun j23=>[]) (fun j23=>k1a a0 a1 j23=some x21) ?_ ?_
   .refine rn tk 1 rfl ?_;obtain ⟨v24,h25,hr⟩:=zaa hr;obtain ⟨v26,h27,hr⟩:=zaa hr;refine dr 6 [(32,.u8 v26),(31,.i ((w64 ((((vOa a1)).length:Int) - 1)))),(30,.s ((vOa a1))),(29,.u8 v24),(28,.i s17),(27,.s a0)] mixed (by kernel_rfl) rfl rfl (pq tk rfl (.plain rfl) (pq tk rfl (.plain rfl) (.run (.plain rfl) (z3a (Zua rfl rfl zEa h25)) (pq tk rfl (.plain rfl) (pq tk rfl (.plain rfl) (.run (.plain rfl) (z3a (Zua rfl rfl zEa h27)) .nil)))))) rfl<|rn tk 3 rfl<|ac 33 hr rfl (fun c28 hr=>?_) (fun c28 hr=>?_)
    .refine rn tk 1 rfl ?_;obtain ⟨v29,h30,hr⟩:=zaa hr;obtain ⟨v31,h32,hr⟩:=zaa hr;refine dr 7 [(40,.u8 v31),(39,.i ((w64 ((((vOa a1)).length:Int) - 1)))),(38,.s ((vOa a1))),(37,.s v29),(36,.i ((w64 (s17+1)))),(35,.i s17),(34,.s a0)] mixed (by kernel_rfl) rfl rfl (pq tk rfl (.plain rfl) (pq tk rfl (.plain rfl) (pq tk rfl (.plain rfl) (.run (.plain rfl) (z3a (Y2a rfl rfl zEa h30)) (pq tk rfl (.plain rfl) (pq tk rfl (.plain rfl) (.run (.plain rfl) (z3a (Zua rfl rfl zEa h32)) .nil))))))) rfl ?_;obtain ⟨v33,h34,hr⟩:=zaa hr;refine cl (qEa _ _ _ h34) rfl rfl<|rn tk 10 rfl<|ac 43 hr rfl (fun c35 hr=>?_) (fun c35 hr=>?_)
     .refine rn tk 10 rfl ?_;cases hr;exact ato rfl rfl rfl rfl
     refine rn tk 9 rfl<|jn (((w64 ((((vOa a1)).length:Int) - 1)),(w64 (s17+(w64 (v33+1)))))) hr rfl rfl
    refine rn tk 1 rfl<|jn (((w64 ((((vOa a1)).length:Int) - 1)),s17)) hr rfl rfl
   intro j23 hr;unfold k1a at hr;refine rn tk 7 rfl<|al1 hr (fun s36=>[(0,.s a0),(7,.s ((vOa a1))),(8,.i j23.1),(9,.i j23.2),(12,.i s36)]) (fun s36=>[]) (.exit 3) (fun b37=>[(8,.i j23.1),(9,.i j23.2)]) (fun b37=>[]) rfl rfl (fun s36 x38 hr=>?_) (fun b37 hr=>?_)
   .unfold v7a at hr;refine rn tk 9 rfl<|ac 51 hr rfl (fun c39 hr=>?_) (fun c39 hr=>?_)
    .refine rn tk 5 rfl ?_;obtain ⟨v40,h41,hr⟩:=zaa hr;obtain ⟨v42,h43,hr⟩:=zaa hr;refine dr 10 [(63,.u8 v42),(62,.i ((w64 (j23.1 - s36)))),(61,.i s36),(60,.i j23.1),(59,.s ((vOa a1))),(58,.u8 v40),(57,.i ((w64 (j23.2 - s36)))),(56,.i s36),(55,.i j23.2),(54,.s a0)] mixed (by kernel_rfl) rfl rfl (pq tk rfl (.plain rfl) (pq tk rfl (.plain rfl) (pq tk rfl (.plain rfl) (pq tk rfl (.plain rfl) (.run (.plain rfl) (z3a (Zua rfl rfl zEa h41)) (pq tk rfl (.plain rfl) (pq tk rfl (.plain rfl) (pq tk rfl (.plain rfl) (pq tk rfl (.plain rfl) (.run (.plain rfl) (z3a (Zua rfl rfl zEa h43)) .nil)))))))))) rfl<|rn tk 3 rfl<|ac 64 hr rfl (fun c44 hr=>?_) (fun c44 hr=>?_)
     .cases hr
     refine rn tk 8 rfl ?_;cases hr;exact atc rfl rfl
    refine rn tk 2 rfl ?_;cases hr;exact ato rfl rfl rfl rfl
   refine rn tk 15 rfl ?_;cases hr;exact ato rfl rfl rfl rfl
  refine rn tk 2 rfl ?_;cases hr;exact ato rfl rfl rfl rfl
 .refine rn tk 12 rfl ?_;cases hr;exact kr tk (.inr rfl) rfl rfl
 refine rn tk 4 rfl ?_;cases hr;exact kr tk (.inr rfl) rfl rfl
theorem v5a(a0:Int)(r:Bool)(hr:zFa a0=some r):Run prog 156 [.i a0] (.bo r):=by
 unfold zFa at hr;refine rf (fn:=f156) ⟨func156,rfl,by kernel_rfl⟩ rfl (fun _=>rfl) fun g0 hg=>?_
 refine rn tk 13 rfl ?_;cases hr;exact kr tk (.inr rfl) rfl rfl
theorem y1a(a0:Str)(a1:Str)(r:Int)(hr:qKa a0 a1=some r):Run prog 153 [.s a0,.s a1] (.i r):=by
 unfold qKa at hr;refine rf (fn:=Tryz.f153) ⟨func153,rfl,by kernel_rfl⟩ rfl (fun _=>rfl) fun g0 hg=>?_
 refine rn tk 12 rfl<|ac 12 hr rfl (fun c1 hr=>?_) (fun c1 hr=>?_)
 .refine rn tk 7 rfl ?_;cases hr;exact kr tk (.inr rfl) rfl rfl
 refine rn tk 10 rfl<|ac 15 hr rfl (fun c2 hr=>?_) (fun c2 hr=>?_)
 .refine rn tk 3 rfl ?_;obtain ⟨v3,h4,hr⟩:=zaa hr;refine ws tk h4 rfl rfl rfl rfl<|wur tk rfl rfl rfl<|rn tk 3 rfl<|jb hr (fun j5=>[(0,.s a0),(5,.pv (.b (.int .i32 j5)))]) (fun j5=>[]) (fun j5 hr=>?_) (fun j5 hr=>?_)
  .refine rn tk 6 rfl<|ac 20 hr rfl (fun c6 hr=>?_) (fun c6 hr=>?_)
   .refine rn tk 3 rfl ?_;cases hr;exact jn _ rfl rfl rfl
   refine rn tk 1 rfl ?_;cases hr;exact jn _ rfl rfl rfl
  refine rn tk 4 rfl ?_;obtain ⟨v7,h8,hr⟩:=zaa hr;refine cl (vYa _ _ _ h8) rfl rfl<|rn tk 5 rfl ?_;cases hr;exact kr tk (.inr rfl) rfl rfl
 refine rn tk 7 rfl ?_;obtain ⟨v9,h10,hr⟩:=zaa hr;refine cl (v5a _ _ h10) rfl rfl<|rn tk 2 rfl<|ac 26 hr rfl (fun c11 hr=>?_) (fun c11 hr=>?_)
 .refine rn tk 3 rfl ?_;cases hr
 refine rn tk 6 rfl<|wr 1045 tk rfl rfl rfl rfl<|rn tk 3 rfl<|al2 hr (fun s12=>[(1,.s a1),(45,.ptr 1045 0)]) (fun s12=>[(1045,.it (strB a0) s12)]) (.exit 2) (fun b13=>[]) (fun b13=>[]) .ret (fun b14=>[(4,.i b14)]) (fun b14=>[]) rfl rfl (fun s12 x16 hr=>?_) (fun b13 hr=>?_) (fun b14 hr=>?_)
 .unfold k3a at hr;refine rn tk 2 rfl<|wnx hr rfl rfl rfl (fun c17 hr=>?_) (fun c17 hr=>?_)
  .refine rn tk 20 rfl ?_;obtain ⟨v18,h19,hr⟩:=zaa hr;refine cl (vYa _ _ _ h19) rfl rfl<|rn tk 3 rfl<|ac 53 hr rfl (fun c20 hr=>?_) (fun c20 hr=>?_)
   .refine rn tk 8 rfl ?_;cases hr;exact ato rfl rfl rfl rfl
   refine rn tk 2 rfl ?_;cases hr;exact atc rfl rfl
  refine rn tk 7 rfl ?_;cases hr;exact ato rfl rfl rfl rfl
 .refine rn tk 8 rfl ?_;cases hr;exact kr tk (.inr rfl) rfl rfl
 refine rn tk 2 rfl ?_;cases hr;exact kr tk (.inr rfl) rfl rfl
theorem Q1a(g:G)(vs:Array Value)(t:TypeId):Old (fun _=>False) g ⟨g.w.alloc (.cells vs t),fun k=>if k=g.w.heap.size then 0 else g.u k,g.loc⟩:=by
 have h:=wia g vs t 0 0 (g.loc 0);have e:(g.alloc vs t 0 0 (g.loc 0))=⟨g.w.alloc (.cells vs t),fun k=>if k=g.w.heap.size then 0 else g.u k,g.loc⟩:=by
  unfold G.alloc
  congr 1
  funext k;split
  .rename_i hk;rw[hk]
  rfl
 rw[<-e];exact h
theorem W2a{g:G}(h:Wf g)(vs:Array Value)(t:TypeId):Wf ⟨g.w.alloc (.cells vs t),fun k=>if k=g.w.heap.size then 0 else g.u k,g.loc⟩:=by
 intro k hk;have hk:g.w.heap.size+1<=k:=by simpa using hk
 show (if k=g.w.heap.size then 0 else g.u k)=0;rw[if_neg (by omega)];exact h k (by omega)
theorem zlb{t:Str}(h:QKa t=true):∀(j:Nat) b,(strB t).data.toList[j]? =some b->b.toNat < 128:=fun j b hb=>QSa h (List.mem_of_getElem? hb)
theorem jla(s t:Str)(r:Int)(hr:kJa s t=some r):Run prog 153 [.s s,.s t] (.i r):=by
 unfold kJa at hr;split at hr
 case isFalse=>cases hr
 rename_i hc;obtain ⟨h1,h2,h3,h4⟩:=hc;by_cases h8:s.length<=8
 .exact y1a s t r (by rw[WCa s t h8 h3 h2 h4];exact hr)
 cases hr;refine ⟨⟨_,_,⟨func153,rfl,by kernel_rfl⟩⟩,fun g vs hw hg ha=>?_⟩;obtain ⟨hsz,hrel⟩:=ha;obtain ⟨l⟩:=vs
 match l,hsz with
 | [x,y],_=>
  obtain rfl:=jRa (hrel 0 _ rfl);obtain rfl:=jRa (hrel 1 _ rfl);have h116:(prog.info? 180).map (fun i=>(i.zero,i.size))=some (some (.agg (Array.replicate 256 (.bool false))),256):=by kernel_rfl
  have hz:=(zero_of_info h116).1;refine callsIn_wide.2 ((Tryz.strings_IndexAny_long hz (strB s) (strB t) g.w (by rw[z5a];exact h3) (by rw[z5a];omega) (by rw[z5a];exact h1) (by rw[z5a];exact h2) (zlb h4)).mono ?_);rintro e w' ⟨rfl,rfl⟩;have o1:=Q1a g (Lib.setCells t) 180;have w1:=W2a hw (Lib.setCells t) 180;have o2:=Q1a ⟨g.w.alloc (.cells (Lib.setCells t) 180),fun k=>if k=g.w.heap.size then 0 else g.u k,g.loc⟩ (Lib.setCells t) 180;have w2:=W2a w1 (Lib.setCells t) 180;have o3:Old (fun _=>False) g _:=o1.trans (o2.mono (S' :=fun b=>False∨g.w.heap.size<=b) (by intro b _ hf;exact hf.elim));exact ⟨⟨_,_,_⟩,_,rfl,(by rfl),o3,w2,(by rfl),.pv (.b rfl)⟩
theorem yqa(a0:Str)(a1:Str)(r:Bool)(hr:z4a a0 a1=some r):Run prog 149 [.s a0,.s a1] (.bo r):=by
 unfold z4a at hr;refine rf (fn:=f149) ⟨func149,rfl,by kernel_rfl⟩ rfl (fun _=>rfl) fun g0 hg=>?_
 refine rn tk 9 rfl ?_;obtain ⟨v1,h2,hr⟩:=zaa hr;refine cl (jla _ _ _ h2) rfl rfl<|rn tk 5 rfl ?_;cases hr;exact kr tk (.inr rfl) rfl rfl
theorem VWa(a0:Str)(r:Bool)(hr:yRa a0=some r):Run prog 142 [.s a0] (.bo r):=by
 unfold yRa at hr;refine rf (fn:=f142) ⟨func142,rfl,by kernel_rfl⟩ rfl (fun _=>rfl) fun g0 hg=>?_
 refine rn tk 8 rfl ?_;obtain ⟨v1,h2,hr⟩:=zaa hr;refine cl (yqa _ _ _ h2) rfl rfl<|rn tk 4 rfl ?_;cases hr;exact kr tk (.inr rfl) rfl rfl
theorem Qra(a0:Str)(r:Bool)(hr:wWa a0=some r):Run prog 132 [.s a0] (.bo r):=by
 unfold wWa at hr;refine rf (fn:=f132) ⟨func132,rfl,by kernel_rfl⟩ rfl (fun _=>rfl) fun g0 hg=>?_
 refine rn tk 5 rfl<|jb hr (fun j1=>[(2,.bo j1)]) (fun j1=>[]) (fun j1 hr=>?_) (fun j1 hr=>?_)
 .refine rn tk 2 rfl ?_;obtain ⟨v2,h3,hr⟩:=zaa hr;refine cl (VWa _ _ h3) rfl rfl<|rn tk 2 rfl<|bs 6 hr rfl (fun c4 hr=>?_) (fun c4 hr=>?_)
  .refine rn tk 3 rfl<|bs 9 hr rfl (fun c5 hr=>?_) (fun c5 hr=>?_)
   .refine rn tk 17 rfl ?_;cases hr;exact jn _ rfl rfl rfl
   refine rn tk 1 rfl ?_;obtain ⟨v6,h7,hr⟩:=zaa hr;refine ug rfl rfl rfl<|ws tk h7 rfl rfl rfl rfl ?_;obtain ⟨v8,h9,hr⟩:=zaa hr;refine ug rfl rfl rfl<|cl (vva _ _ h9) rfl rfl<|rn tk 2 rfl<|bs 14 hr rfl (fun c10 hr=>?_) (fun c10 hr=>?_)
   .refine rn tk 4 rfl ?_;obtain ⟨v11,h12,hr⟩:=zaa hr;refine ug rfl rfl rfl<|ws tk h12 rfl rfl rfl rfl ?_;obtain ⟨v13,h14,hr⟩:=zaa hr;refine ug rfl rfl rfl<|cl (vva _ _ h14) rfl rfl<|rn tk 6 rfl ?_;cases hr;exact jn _ rfl rfl rfl
   refine rn tk 12 rfl ?_;cases hr;exact jn _ rfl rfl rfl
  refine rn tk 20 rfl ?_;cases hr;exact jn _ rfl rfl rfl
 refine rn tk 1 rfl ?_;cases hr;exact kr tk (.inr rfl) rfl rfl
theorem Zoa(a0:Str)(a1:Str)(r:(List Str) × zra)(hr:wYa a0 a1=some r):Run prog 115 [.s a0,.s a1] (.tup [.l cS r.1,.agg [.i r.2.Code,.i r.2.Index]]):=by
 unfold wYa at hr;refine rf (fn:=f115) ⟨func115,rfl,by kernel_rfl⟩ rfl (fun _=>rfl) fun g0 hg=>?_
 refine rn tk 11 rfl ?_;obtain ⟨v1,h2,hr⟩:=zaa hr;refine cl (VVa _ _ h2) rfl rfl<|rn tk 4 rfl<|ac 12 hr rfl (fun c3 hr=>?_) (fun c3 hr=>?_)
 .refine rn tk 2 rfl ?_;obtain ⟨v4,h5,hr⟩:=zaa hr;refine cl (zja _ _ _ h5) rfl rfl<|rn tk 7 rfl ?_;cases hr;exact kr tk (.inr rfl) rfl rfl
 refine rn tk 8 rfl<|ac 17 hr rfl (fun c6 hr=>?_) (fun c6 hr=>?_)
 .refine rn tk 2 rfl ?_;obtain ⟨v7,h8,hr⟩:=zaa hr;refine cl (zja _ _ _ h8) rfl rfl<|rn tk 7 rfl ?_;cases hr;exact kr tk (.inr rfl) rfl rfl
 refine rn tk 3 rfl ?_;obtain ⟨v9,h10,hr⟩:=zaa hr;refine cl (Qra _ _ h10) rfl rfl<|rn tk 4 rfl<|ac 22 hr rfl (fun c11 hr=>?_) (fun c11 hr=>?_)
 .refine rn tk 2 rfl ?_;obtain ⟨v12,h13,hr⟩:=zaa hr;refine cl (zja _ _ _ h13) rfl rfl<|rn tk 7 rfl ?_;cases hr;exact kr tk (.inr rfl) rfl rfl
 refine rn tk 6 rfl ?_;obtain ⟨v14,h15,hr⟩:=zaa hr;refine wc h15 rfl rfl rfl<|rn tk 1 rfl ?_;obtain ⟨v16,h17,hr⟩:=zaa hr;refine wc h17 rfl rfl rfl<|rn tk 10 rfl ?_;refine y5a 1008 (d:=8) 9 1 rfl rfl rfl (hO ?_);refine rn tk 4 rfl<|al1 hr (fun s18=>[(5,.ptr 5 0),(6,.s s18.1),(7,.i s18.2.1),(8,.hs 1008 0)]) (fun s18=>[(1008,.row 9 false 1 (List.map cS s18.2.2)),(5,.cells [.i 0,.i 0])]) (.exit 1) (fun b19=>[(5,.ptr 5 0),(6,.s b19.1),(8,.hs 1008 0)]) (fun b19=>[(1008,.row 9 false 1 (List.map cS b19.2)),(5,.cells [.i 0,.i 0])]) rfl rfl (fun s18 x20 hr=>?_) (fun b19 hr=>?_)
 .unfold vUa at hr;refine rn tk 8 rfl<|ac 36 hr rfl (fun c21 hr=>?_) (fun c21 hr=>?_)
  .refine rn tk 7 rfl ?_;obtain ⟨v22,h23,hr⟩:=zaa hr;refine cl (Qqa _ _ _ h23) rfl rfl<|rn tk 10 rfl<|ac 41 hr rfl (fun c24 hr=>?_) (fun c24 hr=>?_)
   .refine rn tk 3 rfl ?_;cases hr;exact ato rfl rfl rfl rfl
   refine rn tk 7 rfl ?_;obtain ⟨v25,h26,hr⟩:=zaa hr;refine wscH tk h26 rfl rfl rfl rfl<|wz cS ([v25]:List Str) tk rfl rfl (fun _=>rfl) rfl rfl rfl ?_;obtain ⟨v27,h28,hr⟩:=zaa hr;refine wa tk h28 rfl rfl rfl rfl (fun _=>rfl) rfl rfl<|rn tk 6 rfl ?_;obtain ⟨v29,h30,hr⟩:=zaa hr;refine wscL tk h30 rfl rfl rfl rfl<|rn tk 4 rfl ?_;cases hr;exact atc rfl rfl
  refine rn tk 2 rfl ?_;cases hr;exact ato rfl rfl rfl rfl
 refine rn tk 6 rfl<|wz cS ([b19.1]:List Str) tk rfl rfl (fun _=>rfl) rfl rfl rfl ?_;obtain ⟨v31,h32,hr⟩:=zaa hr;refine wa tk h32 rfl rfl rfl rfl (fun _=>rfl) rfl rfl<|rn tk 7 rfl<|wnh tk rfl rfl rfl rfl<|rn tk 4 rfl ?_;refine yca (d:=55) (F:=cS) (l:=v31) rfl rfl (hC ?_);refine al2 hr (fun s34=>[(5,.ptr 5 0),(8,.hs 1008 0),(55,.l cS v31),(56,.i ((v31.length:Int))),(57,.i s34)]) (fun s34=>[(1008,.row 9 false 1 (List.map cS v31)),(5,.cells [.i 0,.i 0])]) (.exit 3) (fun b35=>[(5,.ptr 5 0),(8,.hs 1008 0)]) (fun b35=>[(1008,.row 9 false 1 (List.map cS v31)),(5,.cells [.i 0,.i 0])]) .ret (fun b36=>[(4,.l cS b36.1),(5,.ptr 5 0)]) (fun b36=>[(5,.cells [.i b36.2.Code,.i b36.2.Index])]) rfl rfl (fun s34 x38 hr=>?_) (fun b35 hr=>?_) (fun b36 hr=>?_)
 .unfold wHa at hr;refine rn tk 6 rfl<|ac 58 hr rfl (fun c39 hr=>?_) (fun c39 hr=>?_)
  .refine rn tk 7 rfl ?_;obtain ⟨v40,h41,hr⟩:=zaa hr;refine wi tk h41 rfl rfl rfl rfl rfl<|rn tk 12 rfl<|ac 64 hr rfl (fun c42 hr=>?_) (fun c42 hr=>?_)
   .refine rn tk 3 rfl ?_;obtain ⟨v43,h44,hr⟩:=zaa hr;refine cl (zja _ _ _ h44) rfl rfl<|rn tk 7 rfl ?_;cases hr;exact ato rfl rfl rfl rfl
   refine rn tk 7 rfl ?_;cases hr;exact atc rfl rfl
  refine rn tk 2 rfl ?_;cases hr;exact ato rfl rfl rfl rfl
 .refine rn tk 5 rfl ?_;obtain ⟨v45,h46,hr⟩:=zaa hr;refine cl (zHa _ h46) rfl rfl<|rn tk 4 rfl ?_;refine yca (d:=4) (F:=cS) (l:=v31) rfl rfl (hC ?_);refine rn tk 1 rfl ?_;cases hr;exact kr tk (.inr rfl) rfl rfl
 refine rn tk 2 rfl ?_;cases hr;exact kr tk (.inr rfl) rfl rfl
theorem jUa(a0:List zga)(r:zra)(hr:qBa a0=some r):Run prog 88 [.l zga.pc a0] (.agg [.i r.Code,.i r.Index]):=by
 unfold qBa at hr;refine rf (fn:=f88) ⟨func88,rfl,by kernel_rfl⟩ rfl (fun _=>rfl) fun g0 hg=>?_
 refine rn tk 9 rfl<|wn tk rfl rfl rfl<|rn tk 3 rfl<|ac 9 hr rfl (fun c1 hr=>?_) (fun c1 hr=>?_)
 .refine rn tk 2 rfl ?_;obtain ⟨v2,h3,hr⟩:=zaa hr;refine cl (zja _ _ _ h3) rfl rfl<|rn tk 5 rfl ?_;cases hr;exact kr tk (.inr rfl) rfl rfl
 refine rn tk 6 rfl<|wn tk rfl rfl rfl<|rn tk 4 rfl<|al2 hr (fun s4=>[(2,.ptr 2 0),(11,.l zga.pc a0),(12,.i ((a0.length:Int))),(13,.i s4)]) (fun s4=>[(2,.cells [.i 0,.i 0])]) (.exit 0) (fun b5=>[(2,.ptr 2 0)]) (fun b5=>[(2,.cells [.i 0,.i 0])]) .ret (fun b6=>[(2,.ptr 2 0)]) (fun b6=>[(2,.cells [.i b6.Code,.i b6.Index])]) rfl rfl (fun s4 x8 hr=>?_) (fun b5 hr=>?_) (fun b6 hr=>?_)
 .unfold qta at hr;refine rn tk 6 rfl<|ac 14 hr rfl (fun c9 hr=>?_) (fun c9 hr=>?_)
  .refine rn tk 7 rfl ?_;obtain ⟨v10,h11,hr⟩:=zaa hr;refine wi tk h11 rfl rfl rfl rfl rfl<|rn tk 12 rfl ?_;obtain ⟨v12,h13,hr⟩:=zaa hr;refine cl (Zoa _ _ _ h13) rfl rfl<|rn tk 11 rfl ?_;obtain ⟨v14,h15,hr⟩:=zaa hr;refine cl (zMa _ _ h15) rfl rfl<|rn tk 2 rfl<|ac 27 hr rfl (fun c16 hr=>?_) (fun c16 hr=>?_)
   .refine rn tk 5 rfl ?_;obtain ⟨v17,h18,hr⟩:=zaa hr;refine cl (zja _ _ _ h18) rfl rfl<|rn tk 6 rfl ?_;cases hr;exact ato rfl rfl rfl rfl
   refine rn tk 7 rfl ?_;cases hr;exact atc rfl rfl
  refine rn tk 2 rfl ?_;cases hr;exact ato rfl rfl rfl rfl
 .refine rn tk 4 rfl ?_;obtain ⟨v19,h20,hr⟩:=zaa hr;refine cl (zHa _ h20) rfl rfl<|rn tk 4 rfl ?_;cases hr;exact kr tk (.inr rfl) rfl rfl
 refine rn tk 2 rfl ?_;cases hr;exact kr tk (.inr rfl) rfl rfl
end Go.Proofs.YtgajlblehdboiaaGreat
