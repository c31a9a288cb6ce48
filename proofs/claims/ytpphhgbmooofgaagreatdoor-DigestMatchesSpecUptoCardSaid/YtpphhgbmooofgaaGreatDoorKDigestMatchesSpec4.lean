/- Part 4 of the proof of the law DigestMatchesSpec: what it needs. -/
import Derived.Test.YtpphhgbmooofgaaGreatDoorKDigestMatchesSpec3
import Derived.Lib.ItoaMem
import Derived.Lib.Atoi
import Derived.Lib.SplitLaws
import Derived.Shelf.Strings.Builder1
import Derived.Shelf.Strings.Builder2
import Derived.Shelf.Strings.OnBuilder
import Derived.Shelf.Strings.Trim
import Derived.Shelf.Small.Utf8
import Derived.Shelf.Small.Bits
import Derived.Shelf.Small.Strs
import Derived.Shelf.Small.Wraps
import Derived.Shelf.Strings.BuilderF
import Derived.Shelf.Strconv.Atoi
import Derived.Shelf.Strconv.Itoa0
import Derived.Shelf.Strconv.Itoa1
import Derived.Shelf.LaysM
import Derived.Shelf.Strconv.Itoa2
import Derived.Shelf.Strconv.Itoa3
import Derived.Shelf.Strconv.AtoiErrFast
import Derived.Shelf.Strconv.ParseIntEmpty
import Derived.Shelf.Strconv.AtoiFail
import Derived.Shelf.Strconv.Clone
import Derived.Shelf.Strconv.SyntaxError
import Derived.Shelf.LaysC
import Derived.Shelf.Strconv.ToError
import Derived.Shelf.Strconv.AtoiErr
import Derived.Shelf.Strconv.ErrVar
import Derived.Shelf.Strings.Search1
import Derived.Shelf.Strings.Search2
import Derived.Shelf.Strings.Search3
import Derived.Shelf.Strings.Cut
import Derived.Shelf.Strings.Count
import Derived.Shelf.Strings.Shaped
import Derived.Shelf.Strings.Prefix
import Derived.Shelf.Strings.Split
import Derived.Shelf.Strings.Runes
import Derived.Shelf.Strings.IndexAny
import Derived.Shelf.Strings.AsciiSet
import Derived.Shelf.Strings.IndexAnyAll
import Derived.Shelf.Bits.Mul64
import Derived.Shelf.Strings.Repeat
import Derived.Shelf.Unicode.DecodeSlow
import Derived.Shelf.Unicode.DecodeAny
import Derived.Shelf.Bytes.SlIndexSmall
import Derived.Shelf.Bytes.SlIndexAt
import Derived.Shelf.Bytes.SlSearch0
import Derived.Shelf.Bytes.SlSearch1
import Derived.Shelf.Bytes.SlSearch2
import Derived.Shelf.Bytes.SlIndexWhole
import Derived.Shelf.Bytes.SlSmallAll
import Derived.Shelf.Bytes.SlEqualAll
import Derived.Shelf.Bytes.Small
import Derived.Shelf.Bytes.IndexByte
import Derived.Test.YtpphhgbmooofgaaGreatDoorProg
set_option linter.unusedVariables false
set_option linter.unusedSimpArgs false
set_option maxRecDepth 100000
set_option maxHeartbeats 40000000
namespace Go.Proofs.YtpphhgbmooofgaaGreatDoor
open Go.RowKit Go.Proofs.Tryz
def w9a(c:UInt8):Bool:=c==32 || c==9
theorem YUa(c:UInt8):vVa c=some (w9a c):=by
 unfold vVa w9a;rw[jRa c 32 (by decide),jRa c 9 (by decide)];cases c==32 <;> rfl
theorem KRa(c:UInt8):qra c=some (w9a c):=by
 unfold qra w9a;rw[jRa c 32 (by decide),jRa c 9 (by decide)];cases c==32 <;> rfl
def fnC(c:UInt8):Bool:=decide (33<=c) && decide (c<=126) && c !=58
def fnP(s:Str):Bool:=s !=([]:Str) && decide (s.length<=60) && s.all fnC
theorem dec60(s:Str):decide ((s.length:Int)<=60)=decide (s.length<=60):=by generalize s.length=n;rw[jBd];simp;omega
theorem zNb(s:Str)(hs:s.length<=1048576):Zua s=some (fnP s):=by
 have hloop:iter (wHa s) 0=some ((zFa (fun _ c=>if !fnC c then some () else none) 0 s).elim (.inl ()) .inr):=by
  refine kja s _ (Sum.inl ()) Sum.inr ?_ ?_
  .unfold wHa;rw[z7a];rfl
  intro i c hc;have hi:=kta hc;unfold wHa;rw[kOa hc,z8a hc];simp only[cond_true,jAb,zHb c 58 (by decide),j2a 33 c (by decide),j3a 126 c (by decide),sc i (by omega)];unfold fnC;cases decide ((33:UInt8)<=c) <;> cases decide (c<=126) <;> cases c !=58 <;> rfl
 unfold Zua fnP;rw[hloop];simp only[jAb,Yna,QLa,wWb,dec60];cases s !=([]:Str) <;> cases decide (s.length<=60) <;> cases s.all fnC <;> rfl
def endC(c:UInt8):Bool:=c==13 || c==10 || c==0
theorem zOb(s:Str)(hs:s.length<=1048576):Zva s=some (s.any endC):=by
 unfold Zva;rw[Zca s _ hs (by decide) (by decide) (by decide)];simp only[jAb,Option.some.injEq]
 congr 1
 funext c;rw[jBd];simp[endC,or_assoc]
def w0b(s:Str):Bool:=match s.head?,s.getLast? with | some a,some b=>w9a a || w9a b | _,_=>false
def valP(s:Str):Bool:= !(s.any endC) && !(w0b s)
theorem qHb(s:Str)(h:s≠ [])(hs:s.length<=1048576):∃a b,idx s 0=some a/\idx s (w64 ((s.length:Int) - 1))=some b/\s.head? =some a/\s.getLast? =some b:=by
 have hpos:=List.length_pos_iff.2 h;obtain ⟨a,r,rfl⟩:=List.exists_cons_of_ne_nil h;have e:w64 (((a::r).length:Int) - 1)=((r.length:Nat):Int):=by
  have hl:(a::r).length=r.length+1:=rfl;rw[zDa (by omega) (by omega)];omega
 refine ⟨a,(a::r).getLast h,rfl,?_,rfl,List.getLast?_eq_some_getLast h⟩;rw[e,JKa,List.getLast_eq_getElem h,jAf (by simp)]
 congr 2
theorem JPa(s:Str)(hs:s.length<=1048576):jja s=some (valP s):=by
 unfold jja valP;rw[zOb s hs];simp only[jAb];by_cases hn:s=[]
 .subst hn;rfl
 obtain ⟨a,b,h1,h2,h3,h4⟩:=qHb s hn hs;have e:(s==([]:Str))=false:=by simpa using hn
 unfold w0b;rw[h1,h2,h3,h4,e];simp only[jAb,KRa,cond_false];cases s.any endC <;> cases w9a a <;> cases w9a b <;> rfl
def br(t:Str)(f i:Nat):Bool:=decide (1<=i) && decide (f<=i) && (match t[i]?,t[i - 1]? with | some a,some b=>w9a a && !w9a b | _,_=>false)
def Vta(t:Str)(f:Nat):Nat->Nat
 | 0=>0
 | i+1=>if br t f (i+1) then i+1 else Vta t f i
def JQa(t:Str)(f:Nat):Nat->Nat->Nat
 | 0,_=>0
 | n+1,i=>if br t f i then i else JQa t f n (i+1)
def cutP(t:Str)(f:Nat):Nat:=if Vta t f 78=0 then JQa t f (t.length - 79) 79 else Vta t f 78
def k0b(t:Str)(f c:Nat):Prop:=(c=0/\∀j,br t f j=false)∨(br t f c=true/\((c<=78/\∀j,c < j->j<=78->br t f j=false)∨(78 < c/\∀j,j < c->br t f j=false)))
theorem w1b(t:Str)(f:Nat):br t f 0=false:=rfl
theorem k1b{t:Str}{f i:Nat}(h:br t f i=true):i < t.length/\1<=i/\f<=i:=by
 unfold br at h;simp only[jAo,decide_eq_true_eq]at h;obtain ⟨⟨h1,h2⟩,h3⟩:=h;refine ⟨?_,h1,h2⟩;cases hi:t[i]? with
 | none=>rw[hi]at h3;simp at h3
 | some a=>exact kta hi
theorem zPb{t:Str}{f c d:Nat}(h:k0b t f c)(k:k0b t f d):c=d:=by
 rcases h with ⟨rfl,h⟩ | ⟨hc,h⟩ <;> rcases k with ⟨rfl,k⟩ | ⟨hd,k⟩
 .rfl
 .rw[h]at hd;cases hd
 .rw[k]at hc;cases hc
 rcases Nat.lt_trichotomy c d with hlt | heq | hgt
 .exfalso;rcases h with ⟨h1,h2⟩ | ⟨h1,h2⟩ <;> rcases k with ⟨k1,k2⟩ | ⟨k1,k2⟩
  .rw[h2 d hlt k1]at hd;cases hd
  .rw[k2 c hlt]at hc;cases hc
  .omega
  rw[k2 c hlt]at hc;cases hc
 .exact heq
 exfalso;rcases h with ⟨h1,h2⟩ | ⟨h1,h2⟩ <;> rcases k with ⟨k1,k2⟩ | ⟨k1,k2⟩
 .rw[k2 c hgt h1]at hc;cases hc
 .omega
 .rw[h2 d hgt]at hd;cases hd
 rw[h2 d hgt]at hd;cases hd
theorem vwb(t:Str)(f:Nat):∀n,(Vta t f n=0/\∀j,j<=n->br t f j=false)∨(br t f (Vta t f n)=true/\Vta t f n<=n/\∀j,Vta t f n < j->j<=n->br t f j=false):=by
 intro n;induction n with
 | zero=>left;exact ⟨rfl,fun j hj=>by
  obtain rfl:j=0:=by omega
  exact w1b t f⟩
 | succ n ih=>
  unfold Vta;by_cases h:br t f (n+1)=true
  .rw[if_pos h];right;exact ⟨h,jAt _,fun j h1 h2=>by omega⟩
  rw[if_neg h];rcases ih with ⟨h1,h2⟩ | ⟨h1,h2,h3⟩
  .left;refine ⟨h1,fun j hj=>?_⟩;by_cases e:j=n+1
   .subst e;simpa using h
   exact h2 j (by omega)
  right;refine ⟨h1,by omega,fun j hj hjn=>?_⟩;by_cases e:j=n+1
  .subst e;simpa using h
  exact h3 j hj (by omega)
theorem vxb(t:Str)(f:Nat):∀n i,(JQa t f n i=0/\∀j,i<=j->j < i+n->br t f j=false)∨(br t f (JQa t f n i)=true/\i<=JQa t f n i/\∀j,i<=j->j < JQa t f n i->br t f j=false):=by
 intro n;induction n with
 | zero=>intro i;left;exact ⟨rfl,fun j h1 h2=>by omega⟩
 | succ n ih=>
  intro i;unfold JQa;by_cases h:br t f i=true
  .rw[if_pos h];right;exact ⟨h,jAt _,fun j h1 h2=>by omega⟩
  rw[if_neg h];have hb:br t f i=false:=by simpa using h
  rcases ih (i+1) with ⟨h1,h2⟩ | ⟨h1,h2,h3⟩
  .left;refine ⟨h1,fun j hj hjn=>?_⟩;by_cases e:j=i
   .subst e;exact hb
   exact h2 j (by omega) (by omega)
  right;refine ⟨h1,by omega,fun j hj hjn=>?_⟩;by_cases e:j=i
  .subst e;exact hb
  exact h3 j (by omega) hjn
theorem w2b(t:Str)(f:Nat):k0b t f (cutP t f):=by
 unfold cutP;rcases vwb t f 78 with ⟨h1,h2⟩ | ⟨h1,h2,h3⟩
 .rw[if_pos h1];rcases vxb t f (t.length - 79) 79 with ⟨k1,k2⟩ | ⟨k1,k2,k3⟩
  .left;refine ⟨k1,fun j=>?_⟩;by_cases hj:j<=78
   .exact h2 j hj
   cases hb:br t f j with
   | false=>rfl
   | true=>have:=(k1b hb).1;rw[k2 j (by omega) (by omega)]at hb;cases hb
  right;refine ⟨k1,.inr ⟨by omega,fun j hj=>?_⟩⟩;by_cases hj2:j<=78
  .exact h2 j hj2
  exact k3 j (by omega) hj
 have hne:Vta t f 78≠0:=by intro h;rw[h,w1b]at h1;cases h1
 rw[if_neg hne];exact .inr ⟨h1,.inl ⟨h2,h3⟩⟩
theorem Kha{t:Str}{f:Nat}(h:cutP t f≠0):1<=cutP t f/\cutP t f < t.length:=by
 rcases w2b t f with ⟨h1,_⟩ | ⟨h1,_⟩
 .exact absurd h1 h
 exact ⟨(k1b h1).2.1,(k1b h1).1⟩
theorem br_at{t:Str}{f i:Nat}(h1:1<=i)(hi:i < t.length):br t f i=(decide (f<=i) && (w9a t[i] && !w9a (t[i - 1]'(by omega)))):=by
 unfold br;rw[jAf hi,jAf (show i - 1 < t.length by omega)];simp[h1]
def PInv(t:Str)(f b i:Nat):Prop:=f<=i/\1<=i/\((b=0/\∀j,j < i->br t f j=false)∨(br t f b=true/\b < i/\((b<=78/\∀j,b < j->j < i->br t f j=false)∨(78 < b/\∀j,j < b->br t f j=false))))
theorem PInv.done{t:Str}{f b i:Nat}(h:PInv t f b i)(hi:0 < b/\78 < i∨t.length<=i):k0b t f b:=by
 obtain ⟨hf,h1,h2⟩:=h;rcases h2 with ⟨rfl,h3⟩ | ⟨h3,h4,h5⟩
 .left;refine ⟨rfl,fun j=>?_⟩;cases hb:br t f j with
  | false=>rfl
  | true=>
   have:=(k1b hb).1;rw[h3 j (by omega)]at hb;cases hb
 right;refine ⟨h3,?_⟩;rcases h5 with ⟨h6,h7⟩ | h6
 .left;refine ⟨h6,fun j hj hj2=>?_⟩;cases hb:br t f j with
  | false=>rfl
  | true=>
   have:=(k1b hb).1;rw[h7 j hj (by omega)]at hb;cases hb
 exact .inr h6
theorem JRa(t:Str)(f:Nat)(ht:t.length<=4194304)(hf:f<=4194304):jka t (f:Int)=some ((cutP t (max f 1):Nat):Int):=by
 unfold jka;have hstart:max (f:Int) 1=((max f 1:Nat):Int):=by omega
 rw[hstart];obtain ⟨r,h1,b,rfl,h2⟩:=jSa (body:=yca t) (fun s=>∃b i:Nat,s=((b:Int),(i:Int))/\PInv t (max f 1) b i/\i<=4194305) (fun s=>(4194306 - s.2).toNat) (fun _ r=>∃c:Nat,r=(c:Int)/\k0b t (max f 1) c) (by
  rintro _ ⟨b,i,rfl,hI,hil⟩;have hi1:=hI.2.1;unfold yca;dsimp only;by_cases hlt:i < t.length
  .have hd:decide ((i:Int) < (t.length:Int))=true:=by simp;omega
   have hpre:w64 ((i:Int) - 1)=((i - 1:Nat):Int):=by rw[zDa (by omega) (by omega)];omega
   rw[hd,YRa hlt,hpre,YRa (show i - 1 < t.length by omega)];have hb:=br_at (f:=max f 1) hi1 hlt;have hfi:decide (max f 1<=i)=true:=by simp only[decide_eq_true_eq];exact hI.1
   rw[hfi,Bool.true_and]at hb;simp only[cond_true,jAb,KRa];have next:∀b' :Nat,PInv t (max f 1) b' (i+1)->qsa ((b:Int),(i:Int)) (b' :Int)=some (.cont ((b' :Int),((i+1:Nat):Int))):=by
    intro b' _;unfold qsa;dsimp only;rw[sc i (by omega)]
   have hno:br t (max f 1) i=false->PInv t (max f 1) b (i+1):=by
    intro hnb;refine ⟨by have:=hI.1;omega,by omega,?_⟩;rcases hI.2.2 with ⟨q1,q2⟩ | ⟨q1,q2,q3⟩
    .left;refine ⟨q1,fun j hj=>?_⟩;by_cases e:j=i
     .subst e;exact hnb
     exact q2 j (by omega)
    right;refine ⟨q1,by omega,?_⟩;rcases q3 with ⟨q4,q5⟩ | q4
    .left;refine ⟨q4,fun j hj hj2=>?_⟩;by_cases e:j=i
     .subst e;exact hnb
     exact q5 j hj (by omega)
    exact .inr q4
   have goNo:br t (max f 1) i=false->(∃s',qsa ((b:Int),(i:Int)) (b:Int)=some (.cont s')/\(∃b i:Nat,s' =((b:Int),(i:Int))/\PInv t (max f 1) b i/\i<=4194305)/\(4194306 - s'.2).toNat < (4194306 - ((i:Int))).toNat/\∀r:Int,(∃c:Nat,r=(c:Int)/\k0b t (max f 1) c)->∃c:Nat,r=(c:Int)/\k0b t (max f 1) c):=by
    intro hnb;exact ⟨_,next b (hno hnb),⟨b,i+1,rfl,hno hnb,by omega⟩,by dsimp only;omega,fun _ h=>h⟩
   cases ha:w9a t[i] with
   | false=>
    rw[ha]at hb;simp only[Bool.not_false,cond_true,jAb];exact .inr (goNo hb)
   | true=>
    rw[ha]at hb;simp only[jBg,cond_false,jAb];cases hp:w9a t[i - 1] with
    | true=>
     rw[hp]at hb;simp only[cond_true];exact .inr (goNo hb)
    | false=>
     rw[hp]at hb;have hb:br t (max f 1) i=true:=hb;simp only[cond_false];by_cases hb0:0 < b/\78 < i
     .left;have e1:decide ((0:Int) < (b:Int))=true:=by simp;omega
      have e2:decide ((78:Int) < (i:Int))=true:=by simp;omega
      rw[e1,e2];exact ⟨(b:Int),rfl,b,rfl,hI.done (.inl hb0)⟩
     right;have e:(bif decide ((0:Int) < (b:Int)) then some (decide ((78:Int) < (i:Int))) else some false)=some false:=by
      by_cases h0:0 < b
      .have e1:decide ((0:Int) < (b:Int))=true:=by simp;omega
       have e2:decide ((78:Int) < (i:Int))=false:=by simp;omega
       rw[e1,e2];rfl
      have e1:decide ((0:Int) < (b:Int))=false:=by simp;omega
      rw[e1];rfl
     rw[e];simp only[jAb,cond_false];have hnew:PInv t (max f 1) i (i+1):=by
      refine ⟨by have:=hI.1;omega,by omega,.inr ⟨hb,by omega,?_⟩⟩;by_cases h78:i<=78
      .exact .inl ⟨h78,fun j h1 h2=>by omega⟩
      right;refine ⟨by omega,?_⟩;rcases hI.2.2 with ⟨q1,q2⟩ | ⟨q1,q2,q3⟩
      .exact q2
      exfalso;have:=(k1b q1).2.1;omega
     exact ⟨_,next i hnew,⟨i,i+1,rfl,hnew,by omega⟩,by dsimp only;omega,fun _ h=>h⟩
  left;have hd:decide ((i:Int) < (t.length:Int))=false:=by simp;omega
  rw[hd];exact ⟨(b:Int),rfl,b,rfl,hI.done (.inr (by omega))⟩) ((0:Int),((max f 1:Nat):Int)) ⟨0,max f 1,rfl,⟨jAt _,by omega,.inl ⟨rfl,fun j hj=>by
  cases hb:br t (max f 1) j with
  | false=>rfl
  | true=>have:=(k1b hb).2.2;omega⟩⟩,by omega⟩
 rw[h1];simp only[jAb];rw[zPb h2 (w2b t (max f 1))]
theorem R_cut_eq(t:Str)(f:Nat)(out:List Str)(ht:t.length<=4194304)(h78:78 < t.length)(hf:f<=4194304)(h1f:1<=f):((iter (kva (t,(f:Int),out)) (0,78)).bind fun b10=>iter (kea (t,(f:Int),out)) (b10,79))=some ((cutP t f:Nat):Int):=by
 have test:∀i:Nat,1<=i->i < t.length->((bif decide ((f:Int)<=(i:Int)) then (idx t (i:Int)).bind fun v18=>(vVa v18).bind fun v20=>(bif v20 then (idx t ((w64 ((i:Int) - 1)))).bind fun v23=>(vVa v23).bind fun v25=>some ((!v25)) else some false) else some false):Option Bool)=some (br t f i):=by
  intro i h1 h2;have hpre:w64 ((i:Int) - 1)=((i - 1:Nat):Int):=by rw[zDa (by omega) (by omega)];omega
  rw[br_at h1 h2,YRa h2,hpre,YRa (show i - 1 < t.length by omega)];have e:decide ((f:Int)<=(i:Int))=decide (f<=i):=by rw[jBd];simp
  rw[e];simp only[jAb,YUa];cases decide (f<=i) <;> cases w9a t[i] <;> rfl
 have hdn:∀i:Nat,i<=78->iter (kva (t,(f:Int),out)) (0,(i:Int))=some ((Vta t f i:Nat):Int):=by
  intro i;induction i with
  | zero=>intro _;exact zva (by unfold kva;rfl)
  | succ i ih=>
   intro hi;have hb:kva (t,(f:Int),out) (0,((i+1:Nat):Int))=some (.cont ((bif br t f (i+1) then ((i+1:Nat):Int) else 0),(i:Int))):=by
    unfold kva;dsimp only;have e1:decide ((0:Int) < ((i+1:Nat):Int))=true:=by rw[decide_eq_true_eq];omega
    have e2:w64 (((i+1:Nat):Int) - 1)=(i:Int):=by rw[zDa (by omega) (by omega)];omega
    rw[test (i+1) (by omega) (by omega),e1,e2];simp only[beq_self_eq_true,cond_true,jAb];cases br t f (i+1) <;> rfl
   rw[zLa hb];unfold Vta;cases hq:br t f (i+1) with
   | false=>simpa using ih (by omega)
   | true=>
    simp only[cond_true,if_true];refine zva ?_;unfold kva;dsimp only;have e3:((((i+1:Nat):Int))==0)=false:=by rw[beq_eq_false_iff_ne];omega
    rw[e3];cases decide ((0:Int) < (i:Int)) <;> rfl
 have h1:=hdn 78 (by omega);have e78:((78:Nat):Int)=78:=rfl;rw[e78]at h1;rw[h1];simp only[jAb];have hout:∀(c i:Nat),c≠0->iter (kea (t,(f:Int),out)) ((c:Int),(i:Int))=some ((c:Nat):Int):=by
  intro c i hc;refine zva ?_;unfold kea;dsimp only;have e3:((c:Int)==0)=false:=by rw[beq_eq_false_iff_ne];omega
  rw[e3];cases decide ((i:Int) < (t.length:Int)) <;> rfl
 have hup:∀n i:Nat,i+n=t.length->1<=i->iter (kea (t,(f:Int),out)) (0,(i:Int))=some ((JQa t f n i:Nat):Int):=by
  intro n;induction n with
  | zero=>
   intro i hi _;refine zva ?_;unfold kea;dsimp only;have:decide ((i:Int) < (t.length:Int))=false:=by rw[decide_eq_false_iff_not];omega
   rw[this];rfl
  | succ n ih=>
   intro i hi h1i;have hb:kea (t,(f:Int),out) (0,(i:Int))=some (.cont ((bif br t f i then (i:Int) else 0),((i+1:Nat):Int))):=by
    unfold kea;dsimp only;have e1:decide ((i:Int) < (t.length:Int))=true:=by simp;omega
    rw[test i h1i (by omega),e1,sc i (by omega)];simp only[beq_self_eq_true,cond_true,jAb];cases br t f i <;> rfl
   rw[zLa hb];unfold JQa;cases hq:br t f i with
   | false=>simpa using ih (i+1) (by omega) (by omega)
   | true=>
    simp only[cond_true,if_true];exact hout i (i+1) (by omega)
 unfold cutP;have e79:((79:Nat):Int)=79:=rfl;by_cases h0:Vta t f 78=0
 .rw[if_pos h0,h0];have:=hup (t.length - 79) 79 (by omega) (by omega);rw[e79]at this;exact this
 rw[if_neg h0];have:=hout (Vta t f 78) 79 h0;rw[e79]at this;exact this
def QMa:Nat->Str->Nat->List Str
 | 0,t,_=>[t]
 | n+1,t,f=>if 78 < t.length then (if cutP t f=0 then [t] else t.take (cutP t f)::QMa n (t.drop (cutP t f)) 1) else [t]
theorem JSa:∀(n m:Nat) (t:Str) (f:Nat),t.length<=n->t.length<=m->QMa n t f=QMa m t f:=by
 intro n;induction n with
 | zero=>
  intro m t f h1 h2;cases m with
  | zero=>rfl
  | succ m=>unfold QMa;rw[if_neg (by omega)]
 | succ n ih=>
  intro m t f h1 h2;cases m with
  | zero=>unfold QMa;rw[if_neg (by omega)]
  | succ m=>
   unfold QMa;split
   .split
    .rfl
    rename_i hc;have:=Kha hc;rw[ih m _ 1 (by simp;omega) (by simp;omega)]
   rfl
def yCa(t:Str)(f:Nat):List Str:=QMa t.length t f
theorem VQa{t:Str}{f:Nat}(h:78 < t.length)(hc:cutP t f≠0):yCa t f=t.take (cutP t f)::yCa (t.drop (cutP t f)) 1:=by
 unfold yCa;obtain ⟨n,hn⟩:∃n,t.length=n+1:=⟨t.length - 1,by omega⟩;have hp:=Kha hc;rw[hn,QMa,if_pos h,if_neg hc];rw[JSa n (t.drop (cutP t f)).length _ 1 (by simp;omega) (jAt _)]
theorem wsa{t:Str}{f:Nat}(h:¬78 < t.length∨cutP t f=0):yCa t f=[t]:=by
 unfold yCa;cases hn:t.length with
 | zero=>rfl
 | succ n=>
  rw[QMa];rcases h with h | h
  .rw[if_neg h]
  split
  .rfl
  rfl
theorem VRa:∀(n:Nat) (t:Str) (f:Nat),t.length<=n->(yCa t f).flatten=t/\(yCa t f).length<=t.length+1:=by
 intro n;induction n with
 | zero=>intro t f h;rw[wsa (.inl (by omega))];simp
 | succ n ih=>
  intro t f h;by_cases h78:78 < t.length
  .by_cases hc:cutP t f=0
   .rw[wsa (.inr hc)];simp
   have hp:=Kha hc;rw[VQa h78 hc];obtain ⟨h1,h2⟩:=ih (t.drop (cutP t f)) 1 (by simp;omega);rw[List.flatten_cons,h1];refine ⟨by simp,?_⟩;simp only[List.length_cons,List.length_drop]at h2 ⊢;omega
  rw[wsa (.inl h78)];simp
theorem YVa{body:Str × Int × List Str->Option (Step (Str × Int × List Str) (Str × List Str))}(enc:Nat->Int)(g:Nat)
 (h:∀(t:Str) (f:Nat) (out:List Str),t.length<=4194304->out.length<=4194305->f<=4194304->body (t,enc f,out)=some (if 78 < t.length then (if cutP t (max f 1)=0 then .out (t,out) else .cont (t.drop (cutP t (max f 1)),enc g,out++ [t.take (cutP t (max f 1))])) else .out (t,out))) (h0:max g 1=1):
 ∀(n:Nat) (t:Str) (f:Nat) (out:List Str),t.length<=n->t.length<=4194304->out.length+t.length<=4194305->f<=4194304->∃last init,iter body (t,enc f,out)=some (last,init)/\init++ [last]=out++yCa t (max f 1):=by
 intro n;induction n with
 | zero=>
  intro t f out h1 h2 h3 h4;have hb:=h t f out h2 (by omega) h4;rw[if_neg (by omega)]at hb;exact ⟨t,out,zva hb,by rw[wsa (.inl (by omega))]⟩
 | succ n ih=>
  intro t f out h1 h2 h3 h4;have hb:=h t f out h2 (by omega) h4;by_cases h78:78 < t.length
  .rw[if_pos h78]at hb;by_cases hc:cutP t (max f 1)=0
   .rw[if_pos hc]at hb;exact ⟨t,out,zva hb,by rw[wsa (.inr hc)]⟩
   rw[if_neg hc]at hb;have hp:=Kha hc;obtain ⟨last,init,q1,q2⟩:=ih (t.drop (cutP t (max f 1))) g (out++ [t.take (cutP t (max f 1))]) (by simp;omega) (by simp;omega) (by simp;omega) (by omega);refine ⟨last,init,(zLa hb).trans q1,?_⟩;rw[q2,h0,VQa h78 hc];simp
  rw[if_neg h78]at hb;exact ⟨t,out,zva hb,by rw[wsa (.inl h78)]⟩
def txt(n v:Str):Str:=n++ [58,32]++v
def flP(n v:Str):List Str:=yCa (txt n v) (n.length+2)
theorem w3b(t:Str)(f:Nat)(ht:t.length<=4194304)(hf:f<=4194304):∃last init,iter wIa (t,(f:Int),([]:List Str))=some (last,init)/\init++ [last]=yCa t (max f 1):=by
 have:=YVa (body:=wIa) (fun n=>(n:Int)) 0 (fun t f out h1 h2 h3=>by
  unfold wIa;dsimp only;by_cases h78:78 < t.length
  .have hd:decide ((78:Int) < (t.length:Int))=true:=by rw[decide_eq_true_eq];omega
   rw[hd,if_pos h78,JRa t f h1 h3];simp only[cond_true,jAb];by_cases hc:cutP t (max f 1)=0
   .rw[if_pos hc,hc];rfl
   have hp:=Kha hc;have e:(((cutP t (max f 1):Nat):Int)==0)=false:=by rw[beq_eq_false_iff_ne];omega
   rw[if_neg hc,e,wRb (by omega),QIa (by omega)];simp only[cond_false,jAb];rw[vKa (by simp;omega)];rfl
  have hd:decide ((78:Int) < (t.length:Int))=false:=by rw[decide_eq_false_iff_not];omega
  rw[hd,if_neg h78];rfl) (by decide) t.length t f [] (jAt _) ht (by simp;omega) hf
 simpa using this
theorem ref_loop(t:Str)(f:Nat)(ht:t.length<=4194304)(hf:f<=4194304)(h1f:1<=f):∃last init,iter qWa (t,(f:Int),([]:List Str))=some (last,init)/\init++ [last]=yCa t f:=by
 have:=YVa (body:=qWa) (fun n=>((max n 1:Nat):Int)) 1 (fun t f out h1 h2 h3=>by
  unfold qWa;dsimp only;by_cases h78:78 < t.length
  .have hd:decide ((78:Int) < (t.length:Int))=true:=by rw[decide_eq_true_eq];omega
   have hc0:=R_cut_eq t (max f 1) out h1 h78 (by omega) (by omega);obtain ⟨b10,hb10,hc1⟩:=jCs.1 hc0;rw[hd,if_pos h78,hb10];simp only[cond_true,jAb];rw[hc1];simp only[jAb];by_cases hc:cutP t (max f 1)=0
   .rw[if_pos hc,hc];rfl
   have hp:=Kha hc;have e:(((cutP t (max f 1):Nat):Int)==0)=false:=by rw[beq_eq_false_iff_ne];omega
   rw[if_neg hc,e,wRb (by omega),QIa (by omega)];simp only[cond_false,jAb];rw[vKa (by simp;omega)];rfl
  have hd:decide ((78:Int) < (t.length:Int))=false:=by rw[decide_eq_false_iff_not];omega
  rw[hd,if_neg h78];rfl) (by decide) t.length t f [] (jAt _) ht (by simp;omega) hf
 have e:max f 1=f:=by omega
 rw[e]at this;simpa using this
theorem w4b(n v:Str)(hn:n.length<=1048576)(hv:v.length<=1048576):cat n [58,32]=some (n++ [58,32])/\cat (n++ [58,32]) v=some (txt n v)/\w64 ((n.length:Int)+2)=((n.length+2:Nat):Int):=by
 refine ⟨vaa (by simp;omega),vaa (by simp;omega),?_⟩;rw[zDa (by omega) (by omega)];omega
theorem k2b(n v:Str):(txt n v).length=n.length+2+v.length:=by unfold txt;simp;omega
theorem ZCa(n v:Str)(hn:n.length<=1048576)(hv:v.length<=1048576):vEa n v=some (flP n v):=by
 obtain ⟨h1,h2,h3⟩:=w4b n v hn hv;have hl:=k2b n v;obtain ⟨last,init,q1,q2⟩:=ref_loop (txt n v) (n.length+2) (by omega) (by omega) (by omega);unfold vEa flP;rw[h1];simp only[jAb];rw[h2];simp only[jAb];rw[h3,q1];simp only[jAb];have hj:=(VRa (txt n v).length (txt n v) (n.length+2) (jAt _)).2;rw[<-q2]at hj;simp at hj;rw[vKa (by simp;omega),q2];rfl
def WUa(i:Nat)(l:Str):Option Int:=if 998 < l.length then some (i:Int) else none
def k3b(n v:Str):List Str × zma:=
 if !fnP n then ([],⟨10, -1⟩) else if 4000 < v.length then ([],⟨1, -1⟩) else if !valP v then ([],⟨11, -1⟩) else match zFa WUa 0 (flP n v) with | some i=>([],⟨1,i⟩) | none=>(flP n v,⟨0,0⟩)
theorem qIb(n v:Str):(flP n v).length<=n.length+v.length+3:=by
 have:=(VRa (txt n v).length (txt n v) (n.length+2) (jAt _)).2;have hl:=k2b n v;unfold flP;omega
theorem dec998(l:Str):decide ((998:Int) < (l.length:Int))=decide (998 < l.length):=by generalize l.length=n;rw[jBd];simp;omega
theorem VSa(n v:Str)(hn:n.length<=1048576)(hv:v.length<=1048576):wJa n v=some (k3b n v):=by
 obtain ⟨h1,h2,h3⟩:=w4b n v hn hv;have hl:=k2b n v;obtain ⟨last,init,q1,q2⟩:=w3b (txt n v) (n.length+2) (by omega) (by omega);rw[show max (n.length+2) 1=n.length+2 by omega]at q2;unfold wJa k3b;rw[zNb n hn,JPa v hv];simp only[jAb,zYa,kga];cases fnP n with
 | false=>rfl
 | true=>
  simp only[jBg,cond_false,jAr,if_false];by_cases h4:4000 < v.length
  .have hd:decide ((4000:Int) < (v.length:Int))=true:=by rw[decide_eq_true_eq];omega
   rw[hd,if_pos h4];rfl
  have hd:decide ((4000:Int) < (v.length:Int))=false:=by rw[decide_eq_false_iff_not];omega
  rw[hd,if_neg h4];simp only[cond_false];cases valP v with
  | false=>rfl
  | true=>
   simp only[jBg,cond_false,jAr,if_false];rw[h1];simp only[jAb];rw[h2];simp only[jAb];rw[h3,q1];simp only[jAb];have hj:=qIb n v;have hfl:flP n v=init++ [last]:=q2.symm;have hj2:=hj;rw[hfl]at hj2;simp at hj2;rw[vKa (by simp;omega),<-hfl];simp only[jAb];rw[kja (flP n v) (fun i l=>(WUa i l).map fun k=>(([]:List Str),(⟨1,k⟩:zma))) (.inl ()) .inr]
   .simp only[jAb];have hm:∀(l:List Str) (i:Nat),zFa (fun i l=>(WUa i l).map fun k=>(([]:List Str),(⟨1,k⟩:zma))) i l=(zFa WUa i l).map fun k=>(([]:List Str),(⟨1,k⟩:zma)):=by
     intro l;induction l with
     | nil=>intro i;rfl
     | cons x l ih=>intro i;unfold zFa;rw[ih];cases WUa i x <;> rfl
    rw[hm];cases zFa WUa 0 (flP n v) <;> rfl
   .unfold ySa;rw[z7a];rfl
   intro i l hli;have hi:=kta hli;unfold ySa WUa;rw[kOa hli,z8a hli];simp only[cond_true,jAb,dec998,zYa,sc i (by omega)];by_cases h9:998 < l.length
   .simp[h9]
   simp[h9]
def Koa(f:zca):Int:=(k3b f.Name f.Value).2.Code
def k4b(l:List Str):Bool:=l.any fun s=>decide (998 < s.length)
theorem YWa(l:List Str):∀n,(zFa WUa n l).isSome=k4b l:=by
 induction l with
 | nil=>intro n;rfl
 | cons x l ih=>
  intro n;unfold zFa k4b WUa;by_cases h:998 < x.length
  .simp[h]
  simp only[h,if_false,List.any_cons,decide_false,Bool.false_or];exact ih (n+1)
def codeQ(n v:Str):Int:=if !fnP n then 10 else if 4000 < v.length then 1 else if !valP v then 11 else if k4b (flP n v) then 1 else 0
theorem qJb(f:zca):Koa f=codeQ f.Name f.Value:=by
 unfold Koa k3b codeQ;rw[<-YWa (flP f.Name f.Value) 0];split
 .rfl
 split
 .rfl
 split
 .rfl
 cases zFa WUa 0 (flP f.Name f.Value) <;> rfl
theorem R_In_60(s:Str):R_In (s.length:Int) 1 60=some (s !=([]:Str) && decide (s.length<=60)):=by
 rw[yBa];cases s with
 | nil=>rfl
 | cons c s=>
  have h:decide ((1:Int)<=((c::s).length:Int))=true:=by rw[decide_eq_true_eq];simp;omega
  rw[h,dec60];rfl
theorem elim_int(c:Int)(o:Option Unit)(f:Unit->Option Int):Sum.elim f (fun b=>some b) (o.elim (Sum.inl ()) (fun _=>Sum.inr c):Unit ⊕ Int)=bif o.isSome then some c else f ():=by cases o <;> rfl
theorem Yqa(f:zca)(hn:f.Name.length<=1048576)(hv:f.Value.length<=1048576):yma f=some (Koa f):=by
 rw[qJb];unfold yma;have hl1:iter (vja f) 0=some ((zFa (fun _ c=>if !fnC c then some () else none) 0 f.Name).elim (.inl ()) fun _=>.inr 10):=by
  refine kja f.Name _ (Sum.inl ()) (fun _=>Sum.inr 10) ?_ ?_
  .unfold vja;rw[z7a];rfl
  intro i c hc;have hi:=kta hc;unfold vja;rw[kOa hc,z8a hc];simp only[cond_true,jAb,yBa,jRa c 58 (by decide),j2a 33 c (by decide),j3a 126 c (by decide),sc i (by omega)];unfold fnC bne;cases decide ((33:UInt8)<=c) <;> cases decide (c<=126) <;> cases c==58 <;> rfl
 have hl2:iter (vka f) 0=some ((zFa (fun _ c=>if endC c then some () else none) 0 f.Value).elim (.inl ()) fun _=>.inr 11):=by
  refine kja f.Value _ (Sum.inl ()) (fun _=>Sum.inr 11) ?_ ?_
  .unfold vka;rw[z7a];rfl
  intro i c hc;have hi:=kta hc;unfold vka;rw[kOa hc,z8a hc];simp only[cond_true,jAb,jRa c 0 (by decide),jRa c 10 (by decide),jRa c 13 (by decide),sc i (by omega)];unfold endC;cases c==0 <;> cases c==10 <;> cases c==13 <;> rfl
 have hl3:∀l:List Str,l.length<=4194304->iter (vla l) 0=some ((zFa (fun _ c=>if decide (998 < c.length) then some () else none) 0 l).elim (.inl ()) fun _=>.inr 1):=by
  intro l hl;refine kja l _ (Sum.inl ()) (fun _=>Sum.inr 1) ?_ ?_
  .unfold vla;rw[z7a];rfl
  intro i c hc;have hi:=kta hc;unfold vla;rw[kOa hc,z8a hc];simp only[cond_true,jAb,dec998,sc i (by omega)];cases decide (998 < c.length) <;> rfl
 have hfl:=qIb f.Name f.Value;rw[hl1];simp only[jAb,elim_int,QLa,wWb,R_In_60,hl2,ZCa _ _ hn hv,hl3 _ (show (flP f.Name f.Value).length<=4194304 by omega)];have h4:decide ((4000:Int) < (f.Value.length:Int))=decide (4000 < f.Value.length):=by generalize f.Value.length=n;rw[jBd];simp;omega
 have he:(bif decide ((0:Int) < (f.Value.length:Int)) then (idx f.Value 0).bind fun v38=>(vVa v38).bind fun v40=>(bif v40 then some true else (idx f.Value ((w64 ((f.Value.length:Int) - 1)))).bind fun v43=>(vVa v43).bind fun v45=>some v45) else some false)=some (w0b f.Value):=by
  by_cases hn0:f.Value=[]
  .rw[hn0];rfl
  obtain ⟨a,b,h1,h2,h3,h4⟩:=qHb f.Value hn0 hv;have hp:=List.length_pos_iff.2 hn0;have hd:decide ((0:Int) < (f.Value.length:Int))=true:=by rw[decide_eq_true_eq];omega
  unfold w0b;rw[h1,h2,h3,h4,hd];simp only[jAb,YUa,cond_true];cases w9a a <;> rfl
 rw[he,h4];simp only[jAb];unfold codeQ fnP valP k4b;cases f.Name.all fnC <;> cases (f.Name !=([]:Str)) <;> cases decide (f.Name.length<=60) <;> (try rfl)
 simp only[jCd,jBg,jAr,if_false,cond_false];by_cases h4000:4000 < f.Value.length
 .simp[h4000]
 simp only[h4000,decide_false,cond_false,if_false];cases f.Value.any endC <;> cases w0b f.Value <;> (try rfl)
 simp only[Bool.not_false,jCd,jBg,jAr,if_false,cond_false];cases (flP f.Name f.Value).any fun s=>decide (998 < s.length) <;> rfl
def qKb(l:List zca):Prop:=l.length<=1048576/\∀f∈l,f.Name.length<=1048576/\f.Value.length<=1048576
def ZDa(i:Nat)(f:zca):Option zma:=if Koa f !=0 then some ⟨Koa f,i⟩ else none
def yJa(l:List zca):zma:=if 60 < l.length then ⟨2, -1⟩ else (zFa ZDa 0 l).getD ⟨0,0⟩
theorem dec60f(l:List zca):decide ((60:Int) < (l.length:Int))=decide (60 < l.length):=by generalize l.length=n;rw[jBd];simp;omega
theorem yUa(l:List zca)(h:qKb l):kda l=some (yJa l):=by
 obtain ⟨h1,h2⟩:=h;unfold kda yJa;rw[kja l ZDa (.inl ()) .inr]
 .simp only[jAb,zYa,kga,Vsa,dec60f];by_cases h6:60 < l.length <;> simp[h6]
 .unfold qOa;rw[z7a];rfl
 intro i f hf;have hi:=kta hf;obtain ⟨hn,hv⟩:=h2 f (jAg hf);unfold qOa ZDa;rw[kOa hf,z8a hf];simp only[cond_true,jAb,VSa _ _ hn hv,zPa,zYa,sc i (by omega)];show (bif Koa f !=0 then _ else _)=_;cases Koa f !=0 <;> rfl
theorem Kia(l:List zca)(h:(yJa l).Code=0):¬60 < l.length/\zFa ZDa 0 l=none/\∀f∈l,Koa f=0:=by
 unfold yJa at h;by_cases h6:60 < l.length
 .rw[if_pos h6]at h;simp at h
 rw[if_neg h6]at h;cases hq:zFa ZDa 0 l with
 | some y=>
  rw[hq]at h;obtain ⟨i,f,h1,h2⟩:=K4a hq;unfold ZDa at h2;exfalso;by_cases hc:Koa f=0
  .simp[hc]at h2
  have:(Koa f !=0)=true:=by simpa using hc
  rw[this]at h2;simp at h2;subst h2;exact hc h
 | none=>
  refine ⟨h6,rfl,fun f hf=>?_⟩;obtain ⟨i,hi⟩:=List.getElem?_of_mem hf;have:=jTa.1 hq i f hi;unfold ZDa at this;simpa using this
theorem qLb{f:zca}(h:Koa f=0):f.Name.length<=60/\f.Value.length<=4000/\k3b f.Name f.Value=(flP f.Name f.Value,⟨0,0⟩)/\∀l∈flP f.Name f.Value,l.length<=998:=by
 have h0:=h;rw[qJb]at h;unfold codeQ at h;have h1:fnP f.Name=true:=by cases hx:fnP f.Name with
  | true=>rfl
  | false=>rw[hx]at h;simp at h
 rw[h1]at h;simp only[jBg,jAr,if_false]at h;have h2:¬4000 < f.Value.length:=by intro hx;rw[if_pos hx]at h;simp at h
 rw[if_neg h2]at h;have h3:valP f.Value=true:=by cases hx:valP f.Value with
  | true=>rfl
  | false=>rw[hx]at h;simp at h
 rw[h3]at h;simp only[jBg,jAr,if_false]at h;have h4:k4b (flP f.Name f.Value)=false:=by cases hx:k4b (flP f.Name f.Value) with
  | false=>rfl
  | true=>rw[hx]at h;simp at h
 refine ⟨?_,by omega,?_,?_⟩
 .unfold fnP at h1;simp only[jAo,decide_eq_true_eq]at h1;exact h1.1.2
 .unfold k3b;rw[h1,h3];simp only[jBg,jAr,if_false,if_neg h2];have:=YWa (flP f.Name f.Value) 0;rw[h4]at this;cases hx:zFa WUa 0 (flP f.Name f.Value) with
  | none=>rfl
  | some y=>rw[hx]at this;cases this
 intro l hl;unfold k4b at h4;rw[List.any_eq_false]at h4;have:=h4 l hl;simp at this;omega
def addL(a:List UInt8)(l:Str):List UInt8:=a++l++ [13,10]
def addF(a:List UInt8)(f:zca):List UInt8:=(flP f.Name f.Value).foldl addL a
def zZa(m:zda):List UInt8:=m.Fields.foldl addF []++ [13,10]++m.Body
theorem qMb(l:List Str)(acc:List UInt8)(hl:l.length<=5000)(h9:∀s∈l,s.length<=998)(ha:acc.length<=1000000000){body:Int × List UInt8->Option (Step (Int × List UInt8) (List UInt8))}
 (h0:∀s,body ((l.length:Int),s)=some (.out s)) (h1:∀(i:Nat) x s,l[i]? =some x->s.length<=1006000000->body ((i:Int),s)=some (.cont (((i+1:Nat):Int),addL s x))):iter body (0,acc)=some (l.foldl addL acc)/\(l.foldl addL acc).length<=acc.length+1000 * l.length:=
 yAa l (fun i s=>(i,s)) addL id (fun i s=>s.length<=acc.length+1000 * i) (body:=body) (fun s _=>h0 s) (fun i x s hx hi=>by
  have hlt:=kta hx;have h9x:=h9 x (jAg hx);refine ⟨h1 i x s hx (by omega),?_⟩;unfold addL;simp;omega) acc (by simp)
theorem zQb(l:List zca)(hl:l.length<=60)(hc:∀f∈l,Koa f=0){body:Int × List UInt8->Option (Step (Int × List UInt8) (List UInt8))}
 (h0:∀s,body ((l.length:Int),s)=some (.out s)) (h1:∀(i:Nat) f s,l[i]? =some f->s.length<=1000000000->body ((i:Int),s)=some (.cont (((i+1:Nat):Int),addF s f))/\(addF s f).length<=s.length+5000000):iter body (0,([]:List UInt8))=some (l.foldl addF [])/\(l.foldl addF []).length<=5000000 * l.length:=
 yAa l (fun i s=>(i,s)) addF id (fun i s=>s.length<=5000000 * i) (body:=body) (fun s _=>h0 s) (fun i f s hf hi=>by
  have hlt:=kta hf;obtain ⟨q1,q2⟩:=h1 i f s hf (by omega);exact ⟨q1,by omega⟩) [] (by simp)
theorem w0a(m:zda)(hb:m.Body.length<=1048576)(h60:m.Fields.length<=60)(hc:∀f∈m.Fields,Koa f=0):qta m=some (zZa m):=by
 unfold qta zZa;obtain ⟨h1,h2⟩:=zQb m.Fields h60 hc (body:=qBa m) (fun s=>by unfold qBa;rw[z7a];rfl) (fun i f s hf hs=>by
  have hi:=kta hf;obtain ⟨c1,c2,c3,c4⟩:=qLb (hc f (jAg hf));have hfl:=qIb f.Name f.Value;obtain ⟨q1,q2⟩:=qMb (flP f.Name f.Value) s (by omega) c4 hs (body:=qAa (k3b f.Name f.Value)) (fun s=>by unfold qAa;rw[c3,z7a];rfl) (fun k x s hx hs=>by
   have hk:=kta hx;have:=c4 x (jAg hx);unfold qAa;rw[c3,kOa hx,z8a hx];simp only[cond_true,jAb,sc k (by omega)];rw[vKa (by omega)];simp only[jAb];rw[vKa (by simp;omega)];rfl)
  unfold addF;refine ⟨?_,by omega⟩;unfold qBa;rw[kOa hf,z8a hf];simp only[cond_true,jAb,VSa f.Name f.Value (by omega) (by omega),q1,sc i (by omega)])
 rw[h1];simp only[jAb];rw[vKa (by simp;omega)];simp only[jAb];rw[vKa (by simp;omega)];rfl
theorem jxa(m:zda)(hb:m.Body.length<=1048576)(h60:m.Fields.length<=60)(hc:∀f∈m.Fields,Koa f=0):k1a m=some (zZa m):=by
 unfold k1a zZa;obtain ⟨h1,h2⟩:=zQb m.Fields h60 hc (body:=qea m) (fun s=>by unfold qea;rw[z7a];rfl) (fun i f s hf hs=>by
  have hi:=kta hf;obtain ⟨c1,c2,c3,c4⟩:=qLb (hc f (jAg hf));have hfl:=qIb f.Name f.Value;obtain ⟨q1,q2⟩:=qMb (flP f.Name f.Value) s (by omega) c4 hs (body:=qda (flP f.Name f.Value)) (fun s=>by unfold qda;rw[z7a];rfl) (fun k x s hx hs=>by
   have hk:=kta hx;have:=c4 x (jAg hx);unfold qda;rw[kOa hx,z8a hx];simp only[cond_true,jAb,sc k (by omega)];rw[vKa (by omega)];simp only[jAb];rw[vKa (by simp;omega)];rfl)
  unfold addF;refine ⟨?_,by omega⟩;unfold qea;rw[kOa hf,z8a hf];simp only[cond_true,jAb,ZCa f.Name f.Value (by omega) (by omega),q1,sc i (by omega)])
 rw[h1];simp only[jAb];rw[vKa (by simp;omega)];simp only[jAb];rw[vKa (by simp;omega)];rfl
def WVa:Nat->List UInt8->Option Bool
 | _,[]=>none
 | c,[x]=>if x==13 || x==10 then some true else if 998 < c+1 then some false else none
 | c,x::y::r=>if x==13 && y==10 then WVa 0 r else if x==13 || x==10 then some true else if 998 < c+1 then some false else WVa (c+1) (y::r)
def QNa{O:Type}(e:Bool->O)(c i:Nat)(x:UInt8)(r:List UInt8):Step (Int × Int) (Unit ⊕ O):=
 if x==13 && r.head? ==some 10 then .cont (0,((i+2:Nat):Int)) else if x==13 || x==10 then .out (.inr (e true)) else if 998 < c+1 then .out (.inr (e false)) else .cont (((c+1:Nat):Int),((i+1:Nat):Int))
theorem zRb{O:Type}(e:Bool->O)(l:List UInt8){body:Int × Int->Option (Step (Int × Int) (Unit ⊕ O))}
 (h0:∀c,body (c,(l.length:Int))=some (.out (.inl ())))
 (hs:∀(c:Nat) (p:List UInt8) x r,l=p++x::r->c<=998->body ((c:Int),(p.length:Int))=some (QNa e c p.length x r)):
 ∀(n:Nat) (r p:List UInt8) (c:Nat),r.length<=n->l=p++r->c<=998->iter body ((c:Int),(p.length:Int))=some ((WVa c r).elim (.inl ()) fun b=>.inr (e b)):=by
 intro n;induction n with
 | zero=>
  intro r p c hr hl hc;obtain rfl:r=[]:=List.length_eq_zero_iff.1 (by omega);have:p=l:=by simp[hl]
  subst this;exact zva (h0 _)
 | succ n ih=>
  intro r p c hr hl hc
  match r,hr,hl with
  | [],_,hl=>
   have:p=l:=by simp[hl]
   subst this;exact zva (h0 _)
  | [x],hr,hl=>
   have hb:=hs c p x [] hl hc;unfold QNa at hb;have e1:(x==13 && ([]:List UInt8).head? ==some 10)=false:=by simp
   rw[e1]at hb;simp only[jAr,if_false]at hb;unfold WVa;cases hx:(x==13 || x==10) with
   | true=>rw[hx]at hb;exact zva hb
   | false=>
    rw[hx]at hb;simp only[jAr,if_false]at hb ⊢;by_cases h9:998 < c+1
    .rw[if_pos h9]at hb ⊢;exact zva hb
    rw[if_neg h9]at hb ⊢;rw[zLa hb];have:=ih [] (p++ [x]) (c+1) (by simp) (by simp[hl]) (by omega);rw[jBs]at this;exact this
  | x::y::r,hr,hl=>
   have hb:=hs c p x (y::r) hl hc;unfold QNa at hb;have e1:((y::r).head? ==some (10:UInt8))=(y==10):=by simp
   rw[e1]at hb;unfold WVa;cases hxy:(x==13 && y==10) with
   | true=>
    rw[hxy]at hb;simp only[if_true]at hb ⊢;rw[zLa hb];have:=ih r (p++ [x,y]) 0 (by simp at hr;omega) (by simp[hl]) (by omega);rw[jBs]at this;exact this
   | false=>
    rw[hxy]at hb;simp only[jAr,if_false]at hb ⊢;cases hx:(x==13 || x==10) with
    | true=>rw[hx]at hb;exact zva hb
    | false=>
     rw[hx]at hb;simp only[jAr,if_false]at hb ⊢;by_cases h9:998 < c+1
     .rw[if_pos h9]at hb ⊢;exact zva hb
     rw[if_neg h9]at hb ⊢;rw[zLa hb];have:=ih (y::r) (p++ [x]) (c+1) (by simp at hr ⊢;omega) (by simp[hl]) (by omega);rw[jBs]at this;exact this
theorem w5b{l p r:List UInt8}{x:UInt8}(h:l=p++x::r)(hl:l.length<=1048576):(bif decide (((p.length+1:Nat):Int) < (l.length:Int)) then (idx l ((p.length+1:Nat):Int)).bind fun v13=>some (((v13.toNat:Int)==10)) else some false)=some (r.head? ==some 10):=by
 subst h;simp at hl;cases r with
 | nil=>
  have:decide (((p.length+1:Nat):Int) < ((p++ [x]).length:Int))=false:=by simp
  rw[this];rfl
 | cons y r=>
  have:decide (((p.length+1:Nat):Int) < ((p++x::y::r).length:Int))=true:=by simp;omega
  rw[this,JKa];have:(p++x::y::r)[p.length+1]? =some y:=by simp[jAk]
  rw[this];simp only[cond_true,jAb,jRa y 10 (by decide)];simp
theorem QOa(l:List UInt8)(hl:l.length<=1048576):wka l=some ((WVa 0 l).elim 0 fun b=>bif b then 11 else 1):=by
 unfold wka;have:=zRb (fun b:Bool=>bif b then (11:Int) else 1) l (body:=q6a l) (fun c=>by unfold q6a;rw[z7a];rfl) (fun c p x r h hc=>by
  have hx:l[p.length]? =some x:=by simp[h]
  have hi:=kta hx;unfold q6a vUa QNa;dsimp only;rw[kOa hx,z8a hx];simp only[cond_true,jAb,jRa x 13 (by decide),jRa x 10 (by decide),sc p.length (by omega),sc (p.length+1) (by omega),sc c (by omega)];rw[w5b h hl];have h9:decide ((998:Int) < ((c+1:Nat):Int))=decide (998 < c+1):=by rw[jBd];simp;omega
  rw[h9];by_cases h98:998 < c+1 <;> simp only[h98,decide_true,decide_false,if_true,if_false] <;> cases x==13 <;> cases x==10 <;> cases r.head? ==some 10 <;> rfl) l.length l [] 0 (jAt _) rfl (by omega)
 have h2:iter (q6a l) (0,0)=_:=this;rw[h2];cases WVa 0 l with
 | none=>rfl
 | some b=>cases b <;> rfl
def bodyF(l:List UInt8):zma:=(WVa 0 l).elim ⟨0,0⟩ fun b=>bif b then ⟨11, -5⟩ else ⟨1, -6⟩
theorem WWa(l:List UInt8)(hl:l.length<=1048576):wKa l=some (bodyF l):=by
 unfold wKa bodyF;rw[QOa l hl];cases WVa 0 l with
 | none=>rfl
 | some b=>cases b <;> rfl
def msgF(m:zda):zma:=if (yJa m.Fields).Code !=0 then yJa m.Fields else if 12000 < (zZa m).length then ⟨1, -4⟩ else bodyF m.Body
def VTa(m:zda):Prop:=qKb m.Fields/\m.Body.length<=1048576
theorem vCa(m:zda)(h:VTa m):zGa m=some (msgF m):=by
 obtain ⟨h1,h2⟩:=h;unfold zGa msgF;rw[yUa _ h1];simp only[jAb,zPa,zYa,WWa _ h2];cases hc:(yJa m.Fields).Code !=0 with
 | true=>rfl
 | false=>
  obtain ⟨q1,q2,q3⟩:=Kia m.Fields (by simpa using hc);rw[w0a m h2 (by omega) q3];simp only[jAb,cond_false,jAr,if_false];have:decide ((12000:Int) < ((zZa m).length:Int))=decide (12000 < (zZa m).length):=by generalize (zZa m).length=n;rw[jBd];simp;omega
  rw[this];by_cases hb:12000 < (zZa m).length <;> simp[hb]
theorem Vua(m:zda)(h:VTa m):qGa m=some (msgF m):=by
 obtain ⟨⟨h1,h3⟩,h2⟩:=h;unfold qGa msgF;rw[kja m.Fields ZDa (.inl ()) .inr]
 .have hbl:iter (kIa m) (0,0)=_:=zRb (fun b:Bool=>bif b then (⟨11, -5⟩:zma) else ⟨1, -6⟩) m.Body (body:=kIa m) (fun c=>by unfold kIa;rw[z7a];rfl) (fun c p x r h hc=>by
   have hx:m.Body[p.length]? =some x:=by simp[h]
   have hi:=kta hx;unfold kIa qfa QNa;dsimp only;rw[kOa hx,z8a hx];simp only[cond_true,jAb,jRa x 13 (by decide),jRa x 10 (by decide),sc p.length (by omega),sc (p.length+1) (by omega),sc c (by omega),Vra];rw[w5b h h2];have h9:decide ((998:Int) < ((c+1:Nat):Int))=decide (998 < c+1):=by rw[jBd];simp;omega
   rw[h9];by_cases h98:998 < c+1 <;> simp only[h98,decide_true,decide_false,if_true,if_false] <;> cases x==13 <;> cases x==10 <;> cases r.head? ==some 10 <;> rfl) m.Body.length m.Body [] 0 (jAt _) rfl (by omega)
  rw[hbl,dec60f];simp only[jAb,Vra];by_cases h6:60 < m.Fields.length
  .have:yJa m.Fields=⟨2, -1⟩:=by unfold yJa;rw[if_pos h6]
   rw[this];simp[h6]
  simp only[h6,decide_false,cond_false];have hh:yJa m.Fields=(zFa ZDa 0 m.Fields).getD ⟨0,0⟩:=by unfold yJa;rw[if_neg h6]
  cases hq:zFa ZDa 0 m.Fields with
  | some y=>
   rw[hq]at hh;have hc:((yJa m.Fields).Code !=0)=true:=by
    cases hc:(yJa m.Fields).Code !=0 with
    | true=>rfl
    | false=>
     obtain ⟨_,q2,_⟩:=Kia m.Fields (by simpa using hc);rw[hq]at q2;cases q2
   rw[hc,hh];rfl
  | none=>
   rw[hq]at hh;have hz:yJa m.Fields=⟨0,0⟩:=hh;obtain ⟨q1,q2,q3⟩:=Kia m.Fields (by rw[hz]);rw[jxa m h2 (by omega) q3,hz];simp only[jAb,Option.elim_none,Sum.elim_inl];have hbb:m.Body.length<=(zZa m).length:=by unfold zZa;simp;omega
   have e2:(bif decide ((12000:Int) < (m.Body.length:Int)) then some true else some (decide ((12000:Int) < ((zZa m).length:Int))))=some (decide (12000 < (zZa m).length)):=by
    generalize (zZa m).length=n at *;by_cases hx:12000 < m.Body.length
    .have e3:decide ((12000:Int) < (m.Body.length:Int))=true:=by rw[decide_eq_true_eq];omega
     have e4:decide (12000 < n)=true:=by rw[decide_eq_true_eq];omega
     rw[e3,e4];rfl
    have e3:decide ((12000:Int) < (m.Body.length:Int))=false:=by rw[decide_eq_false_iff_not];omega
    rw[e3];simp only[cond_false,Option.some.injEq];rw[jBd];simp;omega
   rw[e2];simp only[jAb];unfold bodyF;by_cases hb:12000 < (zZa m).length
   .simp[hb]
   simp only[hb,decide_false,cond_false,if_false];cases WVa 0 m.Body <;> rfl
 .unfold q7a;rw[z7a];rfl
 intro i f hf;have hi:=kta hf;obtain ⟨hn,hv⟩:=h3 f (jAg hf);unfold q7a ZDa;rw[kOa hf,z8a hf];simp only[cond_true,jAb,Yqa _ hn hv,Vra,sc i (by omega)];cases Koa f !=0 <;> rfl
instance:DecidableEq zqa:=fun a b=>decidable_of_iff (a.Address=b.Address/\a.Notify=b.Notify) (by cases a;cases b;simp)
instance:DecidableEq zma:=fun a b=>decidable_of_iff (a.Code=b.Code/\a.Index=b.Index) (by cases a;cases b;simp)
instance:DecidableEq qSa:=fun a b=>decidable_of_iff (a.From=b.From/\a.To=b.To/\a.Id=b.Id) (by cases a;cases b;simp)
def WXa(s:Str)(r:zqa):Bool:=r.Address==s
def k5b(out:List zqa)(s:Str):Bool:=out.any (WXa s)
def putR(out:List zqa)(r:zqa):List zqa:=if k5b out r.Address then out.map (fun x=>if WXa r.Address x then ⟨x.Address,iOr x.Notify r.Notify⟩ else x) else out++ [r]
def posA(out:List zqa)(s:Str):Option Nat:=out.findIdx? (WXa s)
theorem posA_has(out:List zqa)(s:Str):(posA out s).isSome=k5b out s:=by unfold posA k5b;exact List.findIdx?_isSome
theorem posA_app(out:List zqa)(r:zqa)(s:Str)(h:k5b out r.Address=false):posA (out++ [r]) s=if r.Address==s then some out.length else posA out s:=by
 unfold posA;rw[List.findIdx?_append];by_cases hs:(r.Address==s)=true
 .rw[if_pos hs];have e:r.Address=s:=beq_iff_eq.1 hs;subst e;have:out.findIdx? (WXa r.Address)=none:=by
   have:=posA_has out r.Address;rw[h]at this;unfold posA at this;simpa using this
  rw[this];simp[WXa]
 rw[if_neg hs];have:WXa s r=false:=by unfold WXa;simpa using hs
 simp[List.findIdx?_cons,this]
theorem posA_map(out:List zqa)(f:zqa->zqa)(hf:∀x,(f x).Address=x.Address)(s:Str):posA (out.map f) s=posA out s:=by
 unfold posA;rw[List.findIdx?_map]
 congr 1
 funext x;simp[Function.comp,WXa,hf]
structure MInv (i:Nat) (out:List zqa) (m:List (Str × Int)):Prop where
 len:out.length<=i
 nd:(out.map (·.Address)).Nodup
 mp:∀s,mget m s=(posA out s).map fun k=>((k:Nat):Int)
theorem MInv.put{i:Nat}{out:List zqa}{m:List (Str × Int)}(h:MInv i out m)(r:zqa):MInv (i+1) (putR out r) (if k5b out r.Address then m else mput m r.Address (out.length:Int)):=by
 unfold putR;cases hh:k5b out r.Address with
 | true=>
  simp only[if_true];have hf:∀x:zqa,(if WXa r.Address x then (⟨x.Address,iOr x.Notify r.Notify⟩:zqa) else x).Address=x.Address:=by intro x;split <;> rfl
  refine ⟨by simp;have:=h.len;omega,?_,fun s=>?_⟩
  .rw[List.map_map,show ((·.Address) ∘ fun x:zqa=>if WXa r.Address x then (⟨x.Address,iOr x.Notify r.Notify⟩:zqa) else x)=(·.Address) from funext hf];exact h.nd
  rw[posA_map _ _ hf];exact h.mp s
 | false=>
  simp only[jAr,if_false];refine ⟨by simp;exact h.len,?_,fun s=>?_⟩
  .rw[List.map_append,List.nodup_append];refine ⟨h.nd,by simp,?_⟩;intro a ha b hb;simp at hb;subst hb;rintro rfl;obtain ⟨x,hx,hxe⟩:=jBm.1 ha;unfold k5b at hh;rw[List.any_eq_false]at hh;exact hh x hx (by simp[WXa,hxe])
  rw[vub,posA_app _ _ _ hh,h.mp s];by_cases hs:(r.Address==s)=true
  .rw[if_pos hs,if_pos hs];rfl
  rw[if_neg hs,if_neg hs]
theorem w6b{m:zda}(h:zda.bk m<=1048576):VTa m:=by
 unfold zda.bk at h;have h1:=kYb (bk:=zca.bk) (fun x=>by unfold zca.bk;omega) m.Fields;have h2:=kYb (bk:=fun _:UInt8=>1) (fun x=>by simp) m.Body;refine ⟨⟨by omega,fun f hf=>?_⟩,by omega⟩;have h5:=wVb (bk:=zca.bk) hf;have h6:zca.bk f=f.Name.length+1+(f.Value.length+1)+1:=rfl;omega
def chkQ(i:Nat)(m:zda):Option zma:=if (msgF m).Code !=0 then some ⟨(msgF m).Code,i⟩ else none
def chkF(l:List zda):zma:=if l.length < 1∨20 < l.length then ⟨2, -20⟩ else (zFa chkQ 0 l).getD ⟨0,0⟩
def YXa(l:List zda):Prop:=l.length<=1048576/\∀m∈l,VTa m
theorem w7b{l:List zda}(h:bkL zda.bk l<=1048576):YXa l:=by
 have h1:=kYb (bk:=zda.bk) (fun x=>by unfold zda.bk;omega) l;refine ⟨by omega,fun m hm=>w6b ?_⟩;have:=wVb (bk:=zda.bk) hm;omega
theorem WYa(l:List zda)(h:YXa l):vJa l=some (chkF l):=by
 obtain ⟨h1,h2⟩:=h;unfold vJa chkF;rw[kja l chkQ (.inl ()) .inr]
 .have e:(bif decide ((l.length:Int) < 1) then some true else some (decide ((20:Int) < (l.length:Int))))=some (decide (l.length < 1∨20 < l.length)):=by
   generalize l.length=n;by_cases h3:n < 1
   .have h4:(n:Int) < 1:=by omega
    simp[h3,h4]
   have h4:¬(n:Int) < 1:=by omega
   have h5:decide ((20:Int) < (n:Int))=decide (n < 1∨20 < n):=by rw[jBd];simp;omega
   rw[h5];simp[h4]
  rw[e];simp only[jAb,zYa,kga,Vsa];by_cases h6:l.length < 1∨20 < l.length
  .rw[if_pos h6,decide_eq_true h6];rfl
  rw[if_neg h6,decide_eq_false h6];rfl
 .unfold vYa;rw[z7a];rfl
 intro i m hm;have hi:=kta hm;unfold vYa chkQ;rw[kOa hm,z8a hm];simp only[cond_true,jAb,vCa _ (h2 m (jAg hm)),zPa,zYa,sc i (by omega)];cases (msgF m).Code !=0 <;> rfl
theorem K6a(l:List zda)(h:YXa l):qDa l=some (chkF l):=by
 obtain ⟨h1,h2⟩:=h;unfold qDa chkF;rw[kja l chkQ (.inl ()) .inr,yBa]
 .simp only[jAb,Vra,Vsa];have e:(!(decide ((1:Int)<=(l.length:Int)) && decide ((l.length:Int)<=20)))=decide (l.length < 1∨20 < l.length):=by
   generalize l.length=n;rw[jBd];simp;omega
  rw[e];by_cases h6:l.length < 1∨20 < l.length
  .rw[if_pos h6,decide_eq_true h6];rfl
  rw[if_neg h6,decide_eq_false h6];rfl
 .unfold qva;rw[z7a];rfl
 intro i m hm;have hi:=kta hm;unfold qva chkQ;rw[kOa hm,z8a hm];simp only[cond_true,jAb,Vua _ (h2 m (jAg hm)),Vra,sc i (by omega)];cases (msgF m).Code !=0 <;> rfl
theorem k6b{l:List zda}(h:(chkF l).Code=0):chkF l=⟨0,0⟩/\1<=l.length/\l.length<=20/\∀m∈l,(msgF m).Code=0:=by
 unfold chkF at h ⊢;split at h
 .cases h
 rename_i h0;rw[if_neg h0];cases hq:zFa chkQ 0 l with
 | some f=>
  rw[hq]at h;obtain ⟨i,m,_,h3⟩:=K4a hq;unfold chkQ at h3;split at h3
  .rename_i h4;cases h3;have h5:(msgF m).Code=0:=h;rw[h5]at h4;cases h4
  cases h3
 | none=>
  refine ⟨rfl,by omega,by omega,fun m hm=>?_⟩;obtain ⟨i,hi⟩:=List.mem_iff_getElem?.1 hm;have:=jTa.1 hq i m hi;unfold chkQ at this;split at this
  .cases this
  rename_i h4;simpa using h4
theorem Vva{m:zda}(hm:(msgF m).Code=0)(h2:VTa m):qua m=some (zZa m,⟨0,0⟩)/\k1a m=some (zZa m)/\(zZa m).length<=12000/\2<=(zZa m).length:=by
 have hh:(yJa m.Fields).Code=0:=by
  unfold msgF at hm;by_cases hz:(yJa m.Fields).Code=0
  .exact hz
  rw[if_pos (by simpa using hz)]at hm;exact hm
 obtain ⟨q1,q2,q3⟩:=Kia _ hh;refine ⟨?_,jxa m h2.2 (by omega) q3,?_,by unfold zZa;simp;omega⟩
 .unfold qua;rw[vCa _ h2];simp only[jAb,zPa,kga,hm,w0a m h2.2 (by omega) q3];rfl
 unfold msgF at hm;rw[if_neg (by simpa using hh)]at hm;split at hm
 .cases hm
 omega
theorem qia{u:Nat}(h:u < 10):Lib.decDigits u=[UInt8.ofNat (48+u)]:=by rw[Lib.decDigits,dif_pos h]
theorem Wua{u:Nat}(h:¬u < 10):Lib.decDigits u=Lib.decDigits (u / 10)++Lib.decDigits (u % 10):=by
 rw[Lib.decDigits,dif_neg h,qia (show u % 10 < 10 by omega)]
theorem QPa:∀(k u:Nat),u < 10 ^ (k+1)->(Lib.decDigits u).length<=k+1
 | 0,u,h=>by rw[qia (by simpa using h)];simp
 | k+1,u,h=>by
  by_cases h10:u < 10
  .rw[qia h10];simp
  have:=QPa k (u / 10) (by rw[Nat.pow_succ]at h;omega);rw[Wua h10,qia (show u % 10 < 10 by omega)];simp;omega
theorem decD_pos(u:Nat):1<=(Lib.decDigits u).length:=by
 by_cases h10:u < 10
 .rw[qia h10];simp
 rw[Wua h10,qia (show u % 10 < 10 by omega)];simp
theorem iQuo10{u:Nat}(h:u<=9223372036854775807):iQuo (u:Int) 10=((u / 10:Nat):Int):=by
 unfold iQuo;rw[Int.tdiv_eq_ediv_of_nonneg (by omega),zDa (by omega) (by omega)];omega
theorem iRem10(u:Nat):iRem (u:Int) 10=((u % 10:Nat):Int):=by
 unfold iRem;rw[Int.tmod_eq_emod_of_nonneg (by omega)];omega
theorem w8b:∀u:Fin 10,cut ([48,49,50,51,52,53,54,55,56,57]:Str) (u.val:Int) (w64 ((u.val:Int)+1))=some [UInt8.ofNat (48+u.val)]:=by decide
theorem kDa{f g:Int->Option Str}(hf:∀n:Int,f n=bif decide (n < 10) then (cut ([48,49,50,51,52,53,54,55,56,57]:Str) n (w64 (n+1))).bind fun v2=>some v2 else (g (iQuo n 10)).bind fun v4=>(g (iRem n 10)).bind fun v6=>(cat v4 v6).bind fun v8=>some v8)
 (k:Nat) (hk:k<=17) (hg:∀u:Nat,u < 10 ^ k->1<=k->g (u:Int)=some (Lib.decDigits u)) (u:Nat) (hu:u < 10 ^ (k+1)):f (u:Int)=some (Lib.decDigits u):=by
 have hp:10 ^ (k+1)<=10 ^ 18:=Nat.pow_le_pow_right (by omega) (by omega);rw[hf];by_cases h10:u < 10
 .rw[decide_eq_true (by omega:(u:Int) < 10),cond_true,w8b ⟨u,h10⟩,qia h10];rfl
 have hk1:1<=k:=by
  rcases Nat.eq_zero_or_pos k with rfl | h
  .simp at hu;omega
  exact h
 have h9:10 ^ 1<=10 ^ k:=Nat.pow_le_pow_right (by omega) hk1;rw[decide_eq_false (by omega:¬(u:Int) < 10),cond_false,iQuo10 (by omega),iRem10,hg _ (by rw[Nat.pow_succ]at hu;omega) hk1,hg _ (by omega) hk1,Wua h10];have h1:=QPa 17 (u / 10) (by omega);have h2:=QPa 17 (u % 10) (by omega);simp only[jAb];rw[vaa (by omega)];rfl
theorem WZa(u:Nat)(h:u < 10 ^ 12):Kea (u:Int)=some (Lib.decDigits u):=by
 have h1:=kDa (f:=yoa) (g:=yna) (fun _=>rfl) 0 (by omega) (fun _ _ h=>by omega);have h2:=kDa (f:=ypa) (fun _=>rfl) 1 (by omega) (fun u hu _=>h1 u hu);have h3:=kDa (f:=yqa) (fun _=>rfl) 2 (by omega) (fun u hu _=>h2 u hu);have h4:=kDa (f:=yra) (fun _=>rfl) 3 (by omega) (fun u hu _=>h3 u hu);have h5:=kDa (f:=ysa) (fun _=>rfl) 4 (by omega) (fun u hu _=>h4 u hu);have h6:=kDa (f:=yta) (fun _=>rfl) 5 (by omega) (fun u hu _=>h5 u hu);have h7:=kDa (f:=yua) (fun _=>rfl) 6 (by omega) (fun u hu _=>h6 u hu);have h8:=kDa (f:=yva) (fun _=>rfl) 7 (by omega) (fun u hu _=>h7 u hu);have h9:=kDa (f:=ywa) (fun _=>rfl) 8 (by omega) (fun u hu _=>h8 u hu);have h10:=kDa (f:=wLa) (fun _=>rfl) 9 (by omega) (fun u hu _=>h9 u hu);have h11:=kDa (f:=wMa) (fun _=>rfl) 10 (by omega) (fun u hu _=>h10 u hu);exact kDa (f:=Kea) (fun _=>rfl) 11 (by omega) (fun u hu _=>h11 u hu) u h
theorem W0a(u:Nat)(h:u<=9223372036854775807):zWa (u:Int)=some (Lib.decDigits u):=by
 unfold zWa;rw[if_pos (by omega),Lib.itoa_nonneg]
def padD(u k:Nat):Str:=List.replicate (k - (Lib.decDigits u).length) 48++Lib.decDigits u
theorem qwa{u k:Nat}(hk:1<=k)(h:u < 10 ^ k):(padD u k).length=k:=by
 unfold padD;have:=QPa (k - 1) u (by rw[show k - 1+1=k by omega];exact h);simp;omega
theorem zSb(k:Nat)(hk:k<=1000):∀(n:Nat) (s:Str),k - s.length=n->iter (jma (k:Int)) s=some (List.replicate n 48++s)
 | 0,s,h=>by
  refine zva ?_;unfold jma;rw[decide_eq_false (by omega)];rfl
 | n+1,s,h=>by
  have hc:jma (k:Int) s=some (.cont (48::s)):=by
   unfold jma;rw[decide_eq_true (by omega),vaa (by simp;omega)];rfl
  rw[zLa hc,zSb k hk n (48::s) (by simp;omega),List.replicate_succ',jBi];rfl
theorem zTb(u k:Nat)(hk:k<=1000)(h:u < 10 ^ 12):Zxa (u:Int) (k:Int)=some (padD u k):=by
 unfold Zxa padD;rw[WZa u h];simp only[jAb];rw[zSb k hk _ _ rfl];rfl
theorem vyb(c:UInt8)(n:Nat):Lib.repeatL [c] n=List.replicate n c:=by
 induction n with
 | zero=>rfl
 | succ n ih=>rw[Lib.repeatL,ih];rfl
theorem VUa(u k:Nat)(hk:k<=1000)(h:u < 10 ^ 12):kMa (u:Int) (k:Int)=some (padD u k):=by
 have hl:=QPa 11 u (by omega);unfold kMa padD;rw[W0a u (by omega)];simp only[jAb];have e:max 0 (w64 ((k:Int) - ((Lib.decDigits u).length:Int)))=((k - (Lib.decDigits u).length:Nat):Int):=by
  rw[zDa (by omega) (by omega)];omega
 unfold k2a;rw[e,if_pos ⟨by omega,by omega,by simp;omega⟩,Int.toNat_natCast,vyb];simp only[jAb];rw[vaa (by simp;omega)];rfl
theorem VVa(b:UInt8):∀(l:Str) (acc:Nat),Lib.decFrom acc (l++ [b])=(Lib.decFrom acc l).bind fun n=>(Lib.digitVal b).map fun d=>n * 10+d
 | [],acc=>by
  simp only[jBu,Lib.decFrom,jAb];cases Lib.digitVal b <;> rfl
 | x::l,acc=>by
  rw[List.cons_append,Lib.decFrom,Lib.decFrom];cases Lib.digitVal x with
  | none=>rfl
  | some d=>exact VVa b l _
theorem y6a{d:Nat}(h:d < 10):Lib.digitVal (UInt8.ofNat (48+d))=some d:=by
 have e:(UInt8.ofNat (48+d)).toNat=48+d:=by rw[jCb];omega
 unfold Lib.digitVal;rw[e,if_pos (by omega)]
 congr 1;omega
theorem W1a:∀(k u:Nat),u < 10 ^ (k+1)->Lib.decFrom 0 (Lib.decDigits u)=some u
 | 0,u,h=>by
  rw[qia (by simpa using h),Lib.decFrom,y6a (show u < 10 by simpa using h)];simp[Lib.decFrom]
 | k+1,u,h=>by
  by_cases h10:u < 10
  .rw[qia h10,Lib.decFrom,y6a h10];simp[Lib.decFrom]
  rw[Wua h10,qia (show u % 10 < 10 by omega),VVa,W1a k (u / 10) (by rw[Nat.pow_succ]at h;omega),y6a (by omega)];simp;omega
theorem W2a(u:Nat):Lib.decFrom 0 (Lib.decDigits u)=some u:=by
 refine W1a u u<|jBl (Nat.lt_pow_self (by omega)) (Nat.pow_le_pow_right (by omega) (by omega))
theorem decD_ne(u:Nat):Lib.decDigits u≠ []:=by
 intro h;have:=decD_pos u;rw[h]at this;simp at this
theorem YYa(u:Nat):Lib.decNat (Lib.decDigits u)=some u:=by
 unfold Lib.decNat;have:(Lib.decDigits u).isEmpty=false:=by
  cases h:Lib.decDigits u with
  | nil=>exact absurd h (decD_ne u)
  | cons x l=>rfl
 rw[this];exact W2a u
theorem k7b(u:Nat):∀c∈Lib.decDigits u,48<=c.toNat/\c.toNat<=57:=by
 intro c hc;obtain ⟨k,hk⟩:=List.mem_iff_getElem?.1 hc;obtain ⟨d,hd⟩:=Lib.digit_of_decFrom _ _ _ (W2a u) k c hk;have:=Lib.digitVal_eq hd;omega
section
def kCT:Str:=[67,111,110,116,101,110,116,45,84,121,112,101]
def vIT:Str:=[109,101,115,115,97,103,101,47,105,116,101,109]
def vMD:Str:=[109,117,108,116,105,112,97,114,116,47,100,105,103,101,115,116]
def tMD:Str:=[109,117,108,116,105,112,97,114,116]
def tD:Str:=[100,105,103,101,115,116]
def itF:List zca:=[⟨kCT,vIT⟩]
def fldF(a w d v:Str):List zca:=[⟨[70,114,111,109],a⟩,⟨[68,97,116,101],w⟩,⟨[88,45,68,105,103,101,115,116],d⟩,⟨kCT,v⟩]
def w1a(b:List UInt8):zka:=⟨itF,b,[]⟩
def digP(a w d:Str)(bs:List (List UInt8)):zka:=⟨fldF a w d vMD,[],bs.map w1a⟩
theorem type_dig(a w d:Str):woa (fldF a w d vMD)=some (⟨tMD,tD,[]⟩,3,true):=by kernel_rfl
theorem w9b(a w d:Str)(P:List zka):vqa ⟨fldF a w d vMD,[],P⟩=some 0:=by kernel_rfl
theorem vzb(b:List UInt8):vBa itF b 1=some []:=by kernel_rfl
theorem yab:kda itF=some ⟨0,0⟩:=by kernel_rfl
def bodC(b:List UInt8):Int:=(WVa 0 b).elim 0 fun t=>bif t then 11 else 1
theorem vAb(b:List UInt8)(hb:b.length<=12000):qJa ⟨⟨itF,b,[]⟩,w64 (0+1)⟩=some (bodC b):=by
 unfold qJa;dsimp only;rw[yab];simp only[jAb,zPa];rw[show decide ((12000:Int) < (b.length:Int))=false by rw[decide_eq_false_iff_not];omega,QOa b (by omega),show w64 (0+1)=1 from rfl,vzb];show (bif bodC b !=0 then some (bodC b) else some 0)=some (bodC b);cases hc:bodC b !=0 with
 | true=>rfl
 | false=>
  have:bodC b=0:=by simpa using hc
  rw[this];rfl
section
variable {α R O A:Type}
theorem k8b(l:List α)(q:Nat->α->Option R)(oN:O)(oS:R->O)(enc:Nat->A){body:A->Option (Step A O)}(hl:body (enc l.length)=some (.out oN))
 (hs:∀(i:Nat) x,l[i]? =some x->body (enc i)=some ((q i x).elim (.cont (enc (i+1))) fun r=>.out (oS r))):
 iter body (enc 0)=some ((zFa q 0 l).elim oN oS):=by
 have key:∀r p,l=p++r->iter body (enc p.length)=some ((zFa q p.length r).elim oN oS):=by
  intro r;induction r with
  | nil=>
   intro p h;have:p=l:=by simp[h]
   subst this;exact zva hl
  | cons x r ih=>
   intro p h;have hx:=hs p.length x (by simp[h]);unfold zFa;cases hq:q p.length x with
   | some y=>rw[hq]at hx;exact zva hx
   | none=>
    rw[hq]at hx;rw[zLa hx];have:=ih (p++ [x]) (by simp[h]);simpa using this
 exact key l [] rfl
end
def itQ(i:Nat)(b:List UInt8):Option zma:=if bodC b !=0 then some ⟨bodC b,((i+1:Nat):Int)⟩ else none
def valD(a w d:Str)(bs:List (List UInt8)):zma:=if (yJa (fldF a w d vMD)).Code !=0 then ⟨(yJa (fldF a w d vMD)).Code,0⟩ else (zFa itQ 0 bs).getD ⟨0,0⟩
theorem k9b(p:zka)(h:p.Parts.length<=20):iter (kha p) (0,w64 (0+1),false)=some (.inl false):=
 (yAa p.Parts (fun i (_:Unit)=>(i,w64 (i+1),false)) (fun s _=>s) (fun _=>.inl false) (fun _ _=>True) (body:=kha p) (fun s _=>by unfold kha;dsimp only;rw[z7a];rfl) (fun i x s hx _=>by
  have hi:=kta hx;refine ⟨?_,trivial⟩;unfold kha;dsimp only;rw[kOa hx,z8a hx,sc i (by omega),show decide ((40:Int)<=((i+1:Nat):Int))=false by rw[decide_eq_false_iff_not];omega];simp only[cond_true,cond_false,jAb];rw[show iter (vba ((i:Int),((i+1:Nat):Int),false)) 0=some (w64 (((i+1:Nat):Int)+1),false) from zva rfl];rfl) () trivial).1
theorem Vwa(a w d:Str)(bs:List (List UInt8))(hs:qKb (fldF a w d vMD))(h1:1<=bs.length)(h2:bs.length<=20)(h3:∀b∈bs,b.length<=12000):kLa (digP a w d bs)=some (valD a w d bs):=by
 unfold kLa;rw[k9b (digP a w d bs) (by show (bs.map w1a).length<=20;simpa using h2)];simp only[jAb,Sum.elim_inl,cond_false];have hc:vra ⟨digP a w d bs,0⟩=some (yJa (fldF a w d vMD)).Code:=by
  unfold vra;dsimp only;rw[show (digP a w d bs).Fields=fldF a w d vMD from rfl,yUa _ hs];simp only[jAb,zPa];cases hz:(yJa (fldF a w d vMD)).Code !=0 with
  | true=>rfl
  | false=>
   have hz' :(yJa (fldF a w d vMD)).Code=0:=by simpa using hz
   rw[show (digP a w d bs).Parts=bs.map w1a from rfl,show decide ((0:Int) < ((bs.map w1a).length:Int))=true by simp;omega,show vqa (digP a w d bs)=some 0 from w9b a w d _,hz'];rfl
 rw[hc];unfold valD;simp only[jAb,zYa,kga];cases hz:(yJa (fldF a w d vMD)).Code !=0 with
 | true=>rfl
 | false=>
  simp only[cond_false,jAr,if_false];have hl:iter (kia (digP a w d bs)) (0,w64 (0+1))=some ((zFa itQ 0 bs).elim (.inl ()) fun f=>.inr (f.Code,f.Index)):=
   k8b bs itQ (Sum.inl ():Unit ⊕ (Int × Int)) (fun f=>.inr (f.Code,f.Index)) (fun i=>((i:Int),w64 ((i:Int)+1))) (body:=kia (digP a w d bs)) (by
    unfold kia;dsimp only;rw[show ((digP a w d bs).Parts.length:Int)=(bs.length:Int) by show ((bs.map w1a).length:Int)=_;simp,z7a];rfl) fun i b hb=>by
    have hi:=kta hb;have hx:(digP a w d bs).Parts[i]? =some (w1a b):=by show (bs.map w1a)[i]? =_;simp[hb]
    unfold kia itQ;dsimp only;rw[kOa hx,z8a hx,sc i (by omega)];simp only[cond_true,jAb];rw[show qJa ⟨⟨(w1a b).Fields,(w1a b).Body,[]⟩,w64 (0+1)⟩=some (bodC b) from vAb b (h3 b (jAg hb))];simp only[jAb,zYa];cases hc:bodC b !=0 with
    | true=>rfl
    | false=>
     simp only[cond_false,jAr,if_false];rw[show iter (vca ((i:Int),((i+1:Nat):Int))) 0=some (w64 (((i+1:Nat):Int)+1)) from zva rfl];rfl
  rw[hl];cases zFa itQ 0 bs <;> rfl
def itH:List UInt8:=itF.foldl addF []++ [13,10]
def itT(b:List UInt8):List UInt8:=itH++b
theorem ybb:itH.length=30:=by decide+kernel
theorem vBb:∀f∈itF,Koa f=0:=by decide+kernel
theorem V6a(b:List UInt8)(hb:b.length<=1048576):wpa itF b=some (itT b):=by
 have h:wpa itF b=qta ⟨itF,b⟩:=by kernel_rfl
 rw[h,w0a ⟨itF,b⟩ hb (show itF.length<=60 by decide) vBb];rfl
end
def fl:List UInt8->List UInt8->List Str × List UInt8
 | cur,[]=>([],cur)
 | cur,[c]=>([],cur++ [c])
 | cur,c::d::r=>if c=13/\d=10 then (cur::(fl [] r).1,(fl [] r).2) else fl (cur++ [c]) (d::r)
theorem fl_hit(cur r:List UInt8):fl cur (13::10::r)=(cur::(fl [] r).1,(fl [] r).2):=by rw[fl,if_pos ⟨rfl,rfl⟩]
theorem ycb{c d:UInt8}(h:¬(c=13/\d=10))(cur r:List UInt8):fl cur (c::d::r)=fl (cur++ [c]) (d::r):=by rw[fl,if_neg h]
theorem W3a(c d:UInt8)(r:List UInt8):Lib.index (c::d::r) [13,10]=if c=13/\d=10 then 0 else if Lib.index (d::r) [13,10]= -1 then -1 else Lib.index (d::r) [13,10]+1:=by
 rw[Lib.index];by_cases h:c=13/\d=10
 .obtain ⟨rfl,rfl⟩:=h;simp
 rw[if_neg h,if_neg]
 .simp
 simp only[List.isPrefixOf,jCd,jAo,beq_iff_eq];rintro ⟨rfl,rfl⟩;exact h ⟨rfl,rfl⟩
theorem fl_none(l:List UInt8):∀cur,Lib.index l [13,10]= -1->fl cur l=([],cur++l):=by
 induction l with
 | nil=>intro cur _;simp[fl]
 | cons c r ih=>
  intro cur h
  match r,ih with
  | [],_=>simp[fl]
  | d::r,ih=>
   rw[W3a]at h;have hg:=Lib.index_ge (d::r) [13,10];split at h
   .cases h
   rename_i hn;rw[ycb hn,ih]
   .simp
   split at h
   .assumption
   omega
theorem fl_some(l:List UInt8):∀(cur:List UInt8) (k:Nat),Lib.index l [13,10]=(k:Int)->k+2<=l.length/\fl cur l=((cur++l.take k)::(fl [] (l.drop (k+2))).1,(fl [] (l.drop (k+2))).2):=by
 induction l with
 | nil=>intro cur k h;simp[Lib.index]at h
 | cons c r ih=>
  intro cur k h
  match r,ih with
  | [],_=>simp[Lib.index]at h
  | d::r,ih=>
   rw[W3a]at h;have hg:=Lib.index_ge (d::r) [13,10];split at h
   .rename_i hn;obtain ⟨rfl,rfl⟩:=hn;obtain rfl:k=0:=by omega
    rw[fl_hit];simp
   rename_i hn;split at h
   .omega
   obtain ⟨j,rfl⟩:∃j,k=j+1:=⟨k - 1,by omega⟩;obtain ⟨h1,h2⟩:=ih (cur++ [c]) j (by omega);rw[ycb hn,h2];refine ⟨by simp at h1 ⊢;omega,?_⟩;simp
def lns(t:List UInt8):List Str:=(fl [] t).1++(if (fl [] t).2=[] then [] else [(fl [] t).2])
theorem qNb{t:List UInt8}(h:Lib.index t [13,10]= -1)(hn:t≠ []):lns t=[t]:=by
 unfold lns;rw[fl_none t [] h];simp[hn]
theorem qOb{t:List UInt8}{k:Nat}(h:Lib.index t [13,10]=(k:Int)):k+2<=t.length/\lns t=t.take k::lns (t.drop (k+2)):=by
 obtain ⟨h1,h2⟩:=fl_some t [] k h;refine ⟨h1,?_⟩;unfold lns;rw[h2];simp
def hasL(p:Str)(t:List UInt8):Bool:=(lns t).any p.isPrefixOf
theorem vCb(t:List UInt8)(b:Str)(ht:t.length<=1048576)(hb:b.length<=100)(n:Nat):∀k:Nat,k<=t.length->t.length - k=n->
 iter (kfa t b) (k:Int)=some (bif hasL ([45,45]++b) (t.drop k) then .inr () else .inl ()):=by
 induction n using Nat.strongRecOn with
 | _ n ih=>
  intro k h1 h2;by_cases hk:k=t.length
  .subst hk;rw[zva (r:=.inl ()) (by unfold kfa;rw[z7a];rfl)];rw[List.drop_length];rfl
  have hx:t[k]? =some (t[k]'(by omega)):=jAf (by omega);have hg:=Lib.index_ge (t.drop k) [13,10];have hne:t.drop k≠ []:=by intro e;have:=congrArg List.length e;simp at this;omega
  by_cases hi:Lib.index (t.drop k) [13,10]= -1
  .have hb2:kfa t b (k:Int)=some (bif ([45,45]++b).isPrefixOf (t.drop k) then .out (.inr ()) else .cont (t.length:Int)):=by
    unfold kfa;rw[kOa hx];simp only[QIa (Nat.le_of_lt (show k < t.length by omega)),jAb,wja,cond_true];rw[if_pos (by simp;omega)];simp only[hi,jAb,show decide ((0:Int)<= -1)=false by decide,cond_false,QIa (Nat.le_of_lt (show k < t.length by omega)),vaa (show ([45,45]:Str).length+b.length<=9223372036854775807 by simp;omega),vda];cases ([45,45]++b).isPrefixOf (t.drop k) <;> rfl
   have hh:hasL ([45,45]++b) (t.drop k)=([45,45]++b).isPrefixOf (t.drop k):=by unfold hasL;rw[qNb hi hne];simp
   rw[hh];cases hp:([45,45]++b).isPrefixOf (t.drop k) with
   | true=>rw[hp]at hb2;rw[zva hb2];rfl
   | false=>
    rw[hp]at hb2;rw[zLa hb2,zva (r:=.inl ()) (by unfold kfa;rw[z7a];rfl)];rfl
  obtain ⟨j,hj⟩:∃j:Nat,Lib.index (t.drop k) [13,10]=(j:Int):=⟨(Lib.index (t.drop k) [13,10]).toNat,by omega⟩;obtain ⟨hj2,hl⟩:=qOb hj;simp at hj2;have hb2:kfa t b (k:Int)=some (bif ([45,45]++b).isPrefixOf ((t.drop k).take j) then .out (.inr ()) else .cont ((k+j+2:Nat):Int)):=by
   unfold kfa;rw[kOa hx];simp only[QIa (Nat.le_of_lt (show k < t.length by omega)),jAb,wja,cond_true];rw[if_pos (by simp;omega)];simp only[hj,jAb,show decide ((0:Int)<=(j:Int))=true by simp,cond_true];rw[w64_nn k j (by omega),show w64 (((k+j:Nat):Int)+2)=((k+j+2:Nat):Int) from by rw[zDa (by omega) (by omega)];omega];rw[wQb (show k<=k+j by omega) (by omega)];simp only[jAb,vaa (show ([45,45]:Str).length+b.length<=9223372036854775807 by simp;omega),vda,show k+j - k=j by omega];cases ([45,45]++b).isPrefixOf ((t.drop k).take j) <;> rfl
  have hh:hasL ([45,45]++b) (t.drop k)=(([45,45]++b).isPrefixOf ((t.drop k).take j) || hasL ([45,45]++b) (t.drop (k+j+2))):=by
   unfold hasL;rw[hl];simp[List.drop_drop,jCf]
  rw[hh];cases hp:([45,45]++b).isPrefixOf ((t.drop k).take j) with
  | true=>rw[hp]at hb2;rw[zva hb2];rfl
  | false=>
   rw[hp]at hb2;rw[zLa hb2,ih (t.length - (k+j+2)) (by omega) (k+j+2) (by omega) rfl];simp
theorem free1_eq(t:List UInt8)(b:Str)(ht:t.length<=1048576)(hb:b.length<=100):wQa t b=some (hasL ([45,45]++b) t):=by
 have h:=vCb t b ht hb _ 0 (jCc _) rfl;rw[show ((0:Nat):Int)=0 from rfl]at h;unfold wQa;rw[h,List.drop_zero];cases hasL ([45,45]++b) t <;> rfl
def bndD(n:Nat):Str:=98::Lib.decDigits n
def Yra(ts:List (List UInt8))(n:Nat):Bool:=ts.any (hasL ([45,45]++bndD n))
theorem zUb{α:Type}[DecidableEq α]:∀{a b:List α},a.Nodup->(∀x∈a,x∈b)->a.length<=b.length
 | [],b,_,_=>jCc _
 | x::a,b,hn,hs=>by
  have hx:=hs x (by simp);obtain ⟨h1,h2⟩:=List.nodup_cons.1 hn;have:=zUb (b:=b.erase x) h2 fun y hy=>(List.mem_erase_of_ne (by rintro rfl;exact h1 hy)).2 (hs y (by simp[hy]))
  rw[List.length_erase_of_mem hx]at this;have:=List.length_pos_of_mem hx;simp;omega
def ydb(L:Str):List Str:=(List.range (L.length+1)).map fun j=>L.take j
def prefs(ts:List (List UInt8)):List Str:=ts.flatMap fun t=>(lns t).flatMap ydb
theorem lns_size(n:Nat):∀t:List UInt8,t.length=n->((lns t).flatMap ydb).length<=t.length+1:=by
 induction n using Nat.strongRecOn with
 | _ n ih=>
  intro t ht;by_cases h0:t=[]
  .subst h0;simp[lns,fl]
  have hg:=Lib.index_ge t [13,10];by_cases hi:Lib.index t [13,10]= -1
  .rw[qNb hi h0];simp[ydb]
  obtain ⟨j,hj⟩:∃j:Nat,Lib.index t [13,10]=(j:Int):=⟨(Lib.index t [13,10]).toNat,by omega⟩;obtain ⟨hj2,hl⟩:=qOb hj;have:=ih (t.drop (j+2)).length (by simp;omega) (t.drop (j+2)) rfl;rw[hl,List.flatMap_cons,jBs];have e:(ydb (t.take j)).length=j+1:=by simp[ydb];omega
  rw[List.length_drop]at this;omega
def QQa:List (List UInt8)->Nat
 | []=>0
 | t::ts=>t.length+1+QQa ts
theorem YZa:∀ts:List (List UInt8),(prefs ts).length<=QQa ts
 | []=>jAt _
 | t::ts=>by
  have h1:=lns_size _ t rfl;have h2:=YZa ts;unfold prefs at h2 ⊢;rw[List.flatMap_cons,jBs];unfold QQa;omega
theorem dec_inj{u v:Nat}(h:Lib.decDigits u=Lib.decDigits v):u=v:=by
 have h1:=YYa u;rw[h,YYa v]at h1;cases h1;rfl
theorem used_le(ts:List (List UInt8))(k:Nat)(h:∀j,j < k->Yra ts j=true):k<=QQa ts:=by
 refine jBk ?_ (YZa ts);have h1:((List.range k).map fun j=>([45,45]++bndD j:Str)).length<=(prefs ts).length:=by
  refine zUb ?_ fun x hx=>?_
  .rw[List.nodup_iff_pairwise_ne,List.pairwise_map];refine List.Pairwise.imp ?_ (List.nodup_iff_pairwise_ne.1 List.nodup_range);intro a b hab e;exact hab (dec_inj (by simpa[bndD]using e))
  obtain ⟨j,hj,rfl⟩:=jBm.1 hx;have hu:=h j (jCh.1 hj);obtain ⟨t,ht,h2⟩:=List.any_eq_true.1 hu;obtain ⟨L,hL,h3⟩:=List.any_eq_true.1 h2;refine List.mem_flatMap.2 ⟨t,ht,List.mem_flatMap.2 ⟨L,hL,jBm.2 ⟨([45,45]++bndD j:Str).length,?_,?_⟩⟩⟩
  .rw[jCh];have:=(List.isPrefixOf_iff_prefix.1 h3).length_le;omega
  exact (List.prefix_iff_eq_take.1 (List.isPrefixOf_iff_prefix.1 h3)).symm
 simpa using h1
theorem qPb(n:Nat)(h:n<=1000000):zWa (n:Int)=some (Lib.decDigits n):=by
 unfold zWa;rw[if_pos (by omega),Lib.itoa_nonneg]
theorem W4a{n:Nat}(h:n<=1000000):(Lib.decDigits n).length<=7:=by
 have key:∀(k u:Nat),u < 10 ^ (k+1)->(Lib.decDigits u).length<=k+1:=by
  intro k;induction k with
  | zero=>intro u hu;rw[Lib.decDigits,dif_pos (by simpa using hu)];simp
  | succ k ih=>
   intro u hu;rw[Lib.decDigits];split
   .simp
   have:=ih (u / 10) (by rw[Nat.pow_succ]at hu;omega);simp;omega
 exact key 6 n (by omega)
theorem Y0a(p:Str):∀(ts:List (List UInt8)) (m:Nat),ts.any (hasL p)=(zFa (fun (i:Nat) t=>if hasL p t then some (i:Int) else none) m ts).isSome
 | [],m=>rfl
 | t::ts,m=>by
  unfold zFa;rw[List.any_cons,Y0a p ts (m+1)];cases hasL p t <;> simp
theorem vDb(ts:List (List UInt8))(n:Nat)(h:n<=1000000)(hts:∀t∈ts,t.length<=1048576)(hl:ts.length<=1048576):
 v3a ts (n:Int)=some (bif Yra ts n then .cont ((n+1:Nat):Int) else .out (bndD n)):=by
 have h7:=W4a h;unfold v3a;rw[qPb n h];simp only[jAb];rw[vaa (by simp;omega)];simp only[jAb];have hloop:iter (v2a ts ([98]++Lib.decDigits n)) 0=some ((zFa (fun (i:Nat) t=>if hasL ([45,45]++bndD n) t then some (i:Int) else none) 0 ts).elim (.inl ()) .inr):=by
  refine kja ts (fun (i:Nat) t=>if hasL ([45,45]++bndD n) t then some (i:Int) else none) (Sum.inl ():Unit ⊕ Int) .inr ?_ fun i t ht=>?_
  .unfold v2a;rw[z7a];rfl
  have hi:=kta ht;unfold v2a;rw[kOa ht,z8a ht];simp only[cond_true,jAb];rw[free1_eq t _ (hts t (jAg ht)) (by simp;omega),sc i (by omega)];show (some (hasL ([45,45]++bndD n) t)).bind _=_;cases hasL ([45,45]++bndD n) t <;> rfl
 rw[hloop];have hu:Yra ts n=(zFa (fun (i:Nat) t=>if hasL ([45,45]++bndD n) t then some (i:Int) else none) 0 ts).isSome:=Y0a _ ts 0;rw[hu];cases hf:zFa (fun (i:Nat) t=>if hasL ([45,45]++bndD n) t then some (i:Int) else none) 0 ts with
 | none=>rfl
 | some x=>
  obtain ⟨i,t,_,h3⟩:=K4a hf;split at h3
  .cases h3;simp only[Option.elim_some,jAb,Sum.elim_inr,show decide ((0:Int)<=((0+i:Nat):Int))=true by simp,jBg,cond_false,Option.isSome_some,cond_true];rw[sc n (by omega)]
  cases h3
theorem JTa(ts:List (List UInt8))(hs:QQa ts<=1000000)(hts:∀t∈ts,t.length<=1048576)(hl:ts.length<=1048576):∃n,n<=1000000/\Yra ts n=false/\jua ts=some (bndD n):=by
 obtain ⟨r,h1,n,h2,h3,h4⟩:=jSa (body:=v3a ts) (fun s=>∃k:Nat,s=(k:Int)/\∀j,j < k->Yra ts j=true) (fun s=>1000001 - s.toNat) (fun _ r=>∃n,n<=1000000/\Yra ts n=false/\r=bndD n) (fun s hi=>by
  obtain ⟨k,rfl,hk⟩:=hi;have hle:=used_le ts k hk;have hb:=vDb ts k (by omega) hts hl;cases hu:Yra ts k with
  | false=>rw[hu]at hb;exact .inl ⟨_,hb,k,by omega,hu,rfl⟩
  | true=>
   rw[hu]at hb;refine .inr ⟨_,hb,⟨k+1,rfl,fun j hj=>?_⟩,?_,fun r hr=>hr⟩
   .rcases jAu j k with h | h
    .exact hk j h
    obtain rfl:j=k:=by omega
    exact hu
   simp;omega) 0 ⟨0,rfl,fun j hj=>by omega⟩
 refine ⟨n,h2,h3,?_⟩;unfold jua;rw[h1,h4];rfl
def add1(o:List Str)(x:Str):List Str:=if o.contains x then o else o++ [x]
def Y1a(o xs:List Str):List Str:=xs.foldl add1 o
theorem add1_mem(o:List Str)(x y:Str):y∈add1 o x↔y∈o∨y=x:=by
 unfold add1;split
 .rename_i h;simp at h;constructor
  .exact .inl
  rintro (h1 | rfl)
  .exact h1
  exact h
 simp
theorem qab(o:List Str)(x:Str):o <+:add1 o x:=by
 unfold add1;split
 .exact List.prefix_refl _
 exact List.prefix_append _ _
theorem vEb{o:List Str}(h:o.Nodup)(x:Str):(add1 o x).Nodup:=by
 unfold add1;split
 .exact h
 rename_i hx;simp at hx;rw[List.nodup_append];exact ⟨h,by simp,fun a ha b hb hab=>by simp at hb;subst hb;subst hab;exact hx ha⟩
theorem vFb(xs:List Str):∀(o:List Str) (y:Str),y∈Y1a o xs↔y∈o∨y∈xs:=by
 induction xs with
 | nil=>intro o y;simp[Y1a]
 | cons x xs ih=>intro o y;show y∈Y1a (add1 o x) xs↔_;rw[ih,add1_mem];simp[or_assoc]
theorem JUa(xs:List Str):∀o:List Str,o <+:Y1a o xs:=by
 induction xs with
 | nil=>intro o;exact List.prefix_refl _
 | cons x xs ih=>intro o;exact (qab o x).trans (ih _)
theorem zVb(xs:List Str):∀{o:List Str},o.Nodup->(Y1a o xs).Nodup:=by
 induction xs with
 | nil=>intro o h;exact h
 | cons x xs ih=>intro o h;exact ih (vEb h x)
theorem nodup_le{l m:List Str}(hl:l.Nodup)(h:∀x∈l,x∈m):l.length<=m.length:=by
 induction l generalizing m with
 | nil=>simp
 | cons x l ih=>
  have hx:x∈m:=h x (by simp);obtain ⟨hxl,hl'⟩:=List.nodup_cons.1 hl;have:=ih (m:=m.erase x) hl' (fun y hy=>by
   have hne:y≠x:=by rintro rfl;exact hxl hy
   exact (List.mem_erase_of_ne hne).2 (h y (by simp[hy])))
  rw[List.length_erase_of_mem hx]at this;have:0 < m.length:=List.length_pos_of_mem hx;simp;omega
def tgtO(l:List yRa)(s:Str):Option (List Str):=(l.find? (fun a=>a.Address==s)).map (·.To)
def tgt(l:List yRa)(s:Str):List Str:=(tgtO l s).getD []
def univ(l:List yRa)(from_:List Str):List Str:=from_++l.flatMap (·.To)
theorem tgt_sub(l:List yRa)(s x:Str)(h:x∈tgt l s):∃a∈l,a.Address=s/\x∈a.To:=by
 unfold tgt tgtO at h;cases hf:l.find? (fun a=>a.Address==s) with
 | none=>rw[hf]at h;simp at h
 | some a=>
  rw[hf]at h;have:=List.find?_some hf;exact ⟨a,List.mem_of_find?_eq_some hf,by simpa using this,by simpa using h⟩
structure Inv (l:List yRa) (U:List Str) (k:Nat) (out:List Str):Prop where
 nd:out.Nodup
 sub:∀x∈out,x∈U
 le:k<=out.length
theorem Inv.len{l:List yRa}{U:List Str}{k:Nat}{out:List Str}(h:Inv l U k out):out.length<=U.length:=nodup_le h.nd h.sub
theorem Inv.step{l:List yRa}{from_:List Str}{k:Nat}{out:List Str}(h:Inv l (univ l from_) k out){s:Str}(hs:out[k]? =some s):Inv l (univ l from_) (k+1) (Y1a out (tgt l s)):=by
 refine ⟨zVb _ h.nd,fun x hx=>?_,?_⟩
 .rcases (vFb _ _ _).1 hx with h1 | h1
  .exact h.sub x h1
  obtain ⟨a,ha,_,hxa⟩:=tgt_sub l s x h1;exact List.mem_append.2 (.inr (List.mem_flatMap.2 ⟨a,ha,hxa⟩))
 have:=(JUa (tgt l s) out).length_le;have:=kta hs;omega
instance:DecidableEq zca:=fun a b=>decidable_of_iff (a.Name=b.Name/\a.Value=b.Value) (by cases a;cases b;simp)
instance:DecidableEq zda:=fun a b=>decidable_of_iff (a.Fields=b.Fields/\a.Body=b.Body) (by cases a;cases b;simp)
instance:DecidableEq WMa:=fun a b=>decidable_of_iff (a.Envelope=b.Envelope/\a.Message=b.Message) (by cases a;cases b;simp)
theorem JVa{α:Type}{lim:Nat}(l:List α)(h:l.length<=lim):(nilE l.isEmpty (some ([]:List α)) ((app lim ([]:List α) l).bind fun v=>some v))=some l:=by
 rw[vKa (by simpa using h)];simp only[jBu,jAb];exact wnb _ _ _ (fun he=>by rw[List.isEmpty_iff.1 he])
def D11:List UInt8:=[98,48,49,50,51,52,53,54,55,56,57]
theorem bndD_mem(n:Nat):∀c∈bndD n,c∈D11:=by
 intro c hc;rcases jBy.1 hc with rfl | hc
 .decide
 obtain ⟨h1,h2⟩:=k7b n c hc;have h:∀i:Fin 10,UInt8.ofNat (48+i.val)∈D11:=by decide
 have:=h ⟨c.toNat - 48,by omega⟩;rw[show 48+(c.toNat - 48)=c.toNat by omega,UInt8.ofNat_toNat]at this;exact this
theorem qQb{n:Nat}(h:n<=1000000):(bndD n).length<=8/\1<=(bndD n).length:=by
 have:=W4a h;unfold bndD;simp;omega
theorem tokC:∀c∈D11,((bif decide (33<=(c.toNat:Int)) then (bif decide ((c.toNat:Int)<=126) then (zsa (([40,41,60,62,64,44,59,58,92,34,47,91,93,63,61,42,37,39]:Str)) c).bind fun v16=>some (decide (v16 < 0)) else some false) else some false):Option Bool)=some true:=by decide+kernel
theorem tok_true(s:Str)(h0:s≠ [])(h60:s.length<=60)(hc:∀c∈s,c∈D11):kNa s=some true:=by
 unfold kNa;rw[show (s !=([]:Str))=true by simpa using h0,show decide ((s.length:Int)<=60)=true by simp;omega];have hl:iter (voa s) 0=some (.inl ()):=by
  rw[kja s (fun _ _=>(none:Option Unit)) (.inl ()) .inr]
  .rw[show zFa (fun _ _=>(none:Option Unit)) 0 s=none by rw[jTa];intro i x _;rfl];rfl
  .unfold voa;rw[z7a];rfl
  intro i c hx;have hi:=kta hx;unfold voa;rw[kOa hx,z8a hx];simp only[cond_true,jAb];rw[tokC c (hc c (jAg hx)),sc i (by omega)];rfl
 rw[hl];rfl
theorem Y2a:∀s:Str,s.length<=9->(∀c∈s,c∈D11)->iter zOa s=some ()
 | [],_,_=>zva rfl
 | c::s,h,hc=>by
  have h128:∀c∈D11,decide ((c.toNat:Int) < 128)=true:=by decide
  have hb:zOa (c::s)=some (.cont s):=by
   unfold zOa;rw[show decide ((0:Int) < ((c::s).length:Int))=true by simp <;> omega,show idx (c::s) 0=some c from rfl];simp only[cond_true,jAb,h128 c (hc c (by simp))];rw[show cut (c::s) 1 ((c::s).length:Int)=some s from by have:=QIa (l:=c::s) (a:=1) (by simp);simpa using this];simp only[jAb];rw[show decide ((8:Int) < (s.length:Int))=false by simp at h;simp;omega];rfl
  rw[zLa hb];exact Y2a s (by simp at h;omega) fun x hx=>hc x (by simp[hx])
def kB:Str:=[98,111,117,110,100,97,114,121]
def mB(v:Str):kua:=⟨tMD,tD,[⟨kB,v⟩]⟩
def vB(v:Str):Str:=vMD++ [59,32]++kB++ [61]++v
theorem mB_valid(v:Str)(h0:v≠ [])(h8:v.length<=8)(hc:∀c∈v,c∈D11):k3a (mB v)=some ⟨0,0⟩:=by
 have hb:qha (mB v) 0=some (.cont 1):=by
  unfold qha;rw[show decide ((0:Int) < ((mB v).Params.length:Int))=true from rfl,show idx (mB v).Params 0=some ⟨kB,v⟩ from rfl];simp only[cond_true,jAb];rw[show kNa kB=some true by kernel_rfl];simp only[jAb,jBg,cond_false];rw[show decide ((20:Int) < (kB.length:Int))=false from rfl,show cut (mB v).Params 0 0=some [] from rfl];simp only[cond_false,jAb];rw[show iter (wna ⟨kB,v⟩ []) 0=some (.inl ()) from zva rfl];simp only[jAb,Sum.elim_inl];rw[show decide ((0:Int)<= -1)=false from rfl,show decide ((500:Int) < (v.length:Int))=false by simp;omega];simp only[cond_false];unfold kya;rw[Y2a v (by omega) hc];rfl
 unfold k3a;rw[show kNa (mB v).Type_=some true by kernel_rfl,show kNa (mB v).Sub=some true by kernel_rfl,zLa hb,show iter (qha (mB v)) 1=some (.inl ()) from zva rfl];rfl
theorem mB_print(v:Str)(h0:v≠ [])(h8:v.length<=8)(hc:∀c∈v,c∈D11):q0a (mB v)=some (vB v,⟨0,0⟩):=by
 have hp:yya ⟨kB,v⟩=some ([59,32]++kB++ [61]++v):=by
  unfold yya;rw[tok_true v h0 (by omega) hc];simp only[jAb,cond_true];rw[show cat [59,32] kB=some ([59,32]++kB) from rfl];simp only[jAb];rw[show cat ([59,32]++kB) [61]=some ([59,32]++kB++ [61]) from rfl];simp only[jAb];rw[vaa (by show 11+v.length<=_;omega)];rfl
 have hb:vpa (mB v) (tMD++ [47]++tD,0)=some (.cont (vB v,1)):=by
  unfold vpa;dsimp only;rw[show decide ((0:Int) < ((mB v).Params.length:Int))=true from rfl,show idx (mB v).Params 0=some ⟨kB,v⟩ from rfl];simp only[cond_true,jAb,hp];rw[vaa (by simp[tMD,tD,kB];omega)];rfl
 unfold q0a;rw[mB_valid v h0 h8 hc];simp only[jAb,zPa,bne_self_eq_false,cond_false];rw[show cat (mB v).Type_ [47]=some (tMD++ [47]) from rfl];simp only[jAb];rw[show cat (tMD++ [47]) (mB v).Sub=some (tMD++ [47]++tD) from rfl];simp only[jAb];rw[zLa hb,show iter (vpa (mB v)) (vB v,1)=some (vB v) from zva rfl];simp only[jAb,kga];rw[show decide ((4000:Int) < ((vB v).length:Int))=false by rw[decide_eq_false_iff_not];unfold vB;rw[jBs,show (vMD++ [59,32]++kB++ [61]:Str).length=27 from rfl];omega];rfl
def sepB(v:Str):List UInt8:=[45,45]++v++ [13,10]
def endBD(v:Str):List UInt8:=[45,45]++v++ [45,45,13,10]
def addT(v:Str)(acc:List UInt8)(t:List UInt8):List UInt8:=acc++sepB v++t++ [13,10]
def qbb(v:Str)(ts:List (List UInt8)):List UInt8:=ts.foldl (addT v) []++endBD v
theorem W5a(v:Str)(hv:v.length<=8):∀(ts:List (List UInt8)) (acc:List UInt8),(ts.foldl (addT v) acc).length<=acc.length+20 * ts.length+QQa ts
 | [],acc=>by simp[QQa]
 | t::ts,acc=>by
  have:=W5a v hv ts (addT v acc t);rw[jCt];unfold QQa;have e:(addT v acc t).length=acc.length+(4+v.length)+t.length+2:=by unfold addT sepB;simp;omega
  simp only[List.length_cons];omega
theorem vGb(a w d:Str)(bs:List (List UInt8))(h2:bs.length<=20)(h3:∀b∈bs,b.length<=12000):iter (kza (digP a w d bs)) (0,[])=some (bs.map itT):=by
 have h:=(yAa bs (fun i (s:List (List UInt8))=>(i,s)) (fun s b=>s++ [itT b]) (fun s=>s) (fun i s=>s.length<=i) (body:=kza (digP a w d bs)) (fun s _=>by
  unfold kza;dsimp only;rw[show ((digP a w d bs).Parts.length:Int)=(bs.length:Int) by show ((bs.map w1a).length:Int)=_;simp,z7a];rfl) (fun i b s hb hs=>by
  have hi:=kta hb;have hx:(digP a w d bs).Parts[i]? =some (w1a b):=by show (bs.map w1a)[i]? =_;simp[hb]
  have:=h3 b (jAg hb);refine ⟨?_,by simp;omega⟩;unfold kza;dsimp only;rw[kOa hx,z8a hx];simp only[cond_true,jAb];unfold v1a;simp only[jAb];rw[show wpa (w1a b).Fields (w1a b).Body=some (itT b) from V6a b (by omega)];simp only[jAb];rw[vKa (by simp;omega),sc i (by omega)];rfl) [] (by simp)).1
 rw[show ((0:Int),([]:List (List UInt8)))=(0,[]) from rfl]at h;rw[h];have key:∀(l:List (List UInt8)) (acc:List (List UInt8)),l.foldl (fun s b=>s++ [itT b]) acc=acc++l.map itT:=by
  intro l;induction l with
  | nil=>intro acc;simp
  | cons x l ih=>intro acc;rw[jCt,ih];simp
 rw[key];rfl
theorem vHb(v:Str)(hv:v.length<=8)(ts:List (List UInt8))(h2:ts.length<=20)(h3:QQa ts<=1000000):iter (kAa ts v) (0,[])=some (ts.foldl (addT v) []):=
 (yAa ts (fun i (s:List UInt8)=>(i,s)) (addT v) (fun s=>s) (fun i s=>s.length<=2000000 * i) (body:=kAa ts v) (fun s _=>by unfold kAa;rw[z7a];rfl) (fun i t s ht hs=>by
  have hi:=kta ht;have hts:t.length<=QQa ts:=by
   have key:∀l:List (List UInt8),t∈l->t.length<=QQa l:=by
    intro l;induction l with
    | nil=>intro h;cases h
    | cons x l ih=>
     intro h;unfold QQa;rcases jBy.1 h with rfl | h
     .omega
     have:=ih h;omega
   exact key ts (jAg ht)
  have h20:2000000 * i<=2000000 * 20:=Nat.mul_le_mul_left _ (by omega);refine ⟨?_,by unfold addT sepB;simp;omega⟩;unfold kAa addT sepB;dsimp only;rw[kOa ht,z8a ht];simp only[cond_true,jAb];rw[vaa (by simp;omega)];simp only[jAb];rw[vaa (by simp;omega)];simp only[jAb];rw[vKa (by simp;omega)];simp only[jAb];rw[vKa (by simp;omega)];simp only[jAb];rw[vKa (by simp;omega),sc i (by omega)];simp) [] (by simp)).1
theorem zWb(bs:List (List UInt8))(h3:∀b∈bs,b.length<=12000):QQa (bs.map itT)<=12031 * bs.length:=by
 induction bs with
 | nil=>exact jAt _
 | cons b bs ih=>
  have h:=h3 b (by simp);have:=ih fun x hx=>h3 x (by simp[hx])
  have e:(itT b).length=30+b.length:=by unfold itT;rw[jBs,ybb]
  rw[List.map_cons];unfold QQa;simp only[List.length_cons];omega
theorem W6a(a w d:Str)(bs:List (List UInt8))(h1:1<=bs.length)(h2:bs.length<=20)(h3:∀b∈bs,b.length<=12000):∃n,n<=1000000/\Yra (bs.map itT) n=false/\
 q1a (digP a w d bs)=some (fldF a w d (vB (bndD n)),qbb (bndD n) (bs.map itT)):=by
 have hz:=zWb bs h3;have hz2:12031 * bs.length<=12031 * 20:=Nat.mul_le_mul_left _ h2;have hT:∀t∈bs.map itT,t.length<=1048576:=by
  intro t ht;obtain ⟨b,hb,rfl⟩:=jBm.1 ht;have:=h3 b hb;unfold itT;rw[jBs,ybb];omega
 obtain ⟨n,hn,hu,hf⟩:=JTa (bs.map itT) (by omega) hT (by simp;omega);obtain ⟨l8,l1⟩:=qQb hn;have hne:bndD n≠ []:=by unfold bndD;simp
 refine ⟨n,hn,hu,?_⟩;have hlen:=W5a (bndD n) l8 (bs.map itT) [];unfold q1a;rw[show (((digP a w d bs).Parts.length:Int)==0)=false by rw[show (digP a w d bs).Parts=bs.map w1a from rfl];simp;intro e;rw[e]at h1;simp at h1];simp only[cond_false];rw[vGb a w d bs h2 h3];simp only[jAb];rw[hf];simp only[jAb];rw[show (digP a w d bs).Fields=fldF a w d vMD from rfl,type_dig];simp only[jAb];rw[show zKa []=some [] by kernel_rfl];simp only[jAb];rw[show app 4398046511104 ([]:List zoa) [⟨[98,111,117,110,100,97,114,121],bndD n⟩]=some [⟨kB,bndD n⟩] from rfl];simp only[jAb];rw[show zla (fldF a w d vMD)=some (fldF a w d vMD) from JVa _ (by show 4<=_;decide)];simp only[jAb];rw[show q0a ⟨tMD,tD,[⟨kB,bndD n⟩]⟩=some (vB (bndD n),⟨0,0⟩) from mB_print _ hne l8 (bndD_mem n)];simp only[jAb];rw[show idx (fldF a w d vMD) 3=some ⟨kCT,vMD⟩ from rfl];simp only[jAb];rw[vHb (bndD n) l8 (bs.map itT) (by simpa using h2) (by omega)];simp only[jAb];rw[vaa (by simp;omega)];simp only[jAb];rw[vaa (by simp;omega)];simp only[jAb];rw[vKa (by simp at hlen ⊢;omega)];rfl
def Ysa(a w d:Str)(bs:List (List UInt8))(n:Nat):zda:=⟨fldF a w d (vB (bndD n)),qbb (bndD n) (bs.map itT)⟩
def zXb(a w d:Str)(bs:List (List UInt8))(n:Nat):zda × zma:=
 if (valD a w d bs).Code !=0 then (⟨[],[]⟩,valD a w d bs) else if (msgF (Ysa a w d bs n)).Code !=0 then (⟨[],[]⟩,⟨(msgF (Ysa a w d bs n)).Code, -3⟩) else (Ysa a w d bs n,⟨0,0⟩)
theorem JWa(a w d:Str)(bs:List (List UInt8))(h1:1<=bs.length)(h2:bs.length<=20)(h3:∀b∈bs,b.length<=12000)(ha:a.length<=1048576)(hw:w.length<=1048576)(hd:d.length<=1048576):
 ∃n,n<=1000000/\Yra (bs.map itT) n=false/\VTa (Ysa a w d bs n)/\kHa (digP a w d bs)=some (zXb a w d bs n):=by
 obtain ⟨n,hn,hu,hj⟩:=W6a a w d bs h1 h2 h3;obtain ⟨l8,l1⟩:=qQb hn;have hz:=zWb bs h3;have hz2:12031 * bs.length<=12031 * 20:=Nat.mul_le_mul_left _ h2;have hlen:=W5a (bndD n) l8 (bs.map itT) [];have hbl:(qbb (bndD n) (bs.map itT)).length<=1048576:=by unfold qbb endBD;simp at hlen ⊢;omega
 have hsf:∀v:Str,v.length<=1048576->qKb (fldF a w d v):=fun v hv=>⟨by show 4<=_;decide,fun f hf=>by
  unfold fldF at hf;simp only[jBy,List.not_mem_nil,or_false]at hf;rcases hf with rfl | rfl | rfl | rfl <;> refine ⟨?_,?_⟩ <;> first | assumption | exact jAe rfl⟩
 have hvB:(vB (bndD n)).length<=1048576:=by unfold vB vMD kB;simp;omega
 have hsm:VTa (Ysa a w d bs n):=⟨hsf _ hvB,hbl⟩;refine ⟨n,hn,hu,hsm,?_⟩;unfold kHa zXb;rw[Vwa a w d bs (hsf vMD (by decide)) h1 h2 h3,hj];simp only[jAb,zPa,zYa,kga];cases hv:(valD a w d bs).Code !=0 with
 | true=>rfl
 | false=>
  simp only[cond_false,jAr,if_false];rw[show zla (fldF a w d (vB (bndD n)))=some (fldF a w d (vB (bndD n))) from JVa _ (by show 4<=_;decide)];simp only[jAb];rw[show zXa (qbb (bndD n) (bs.map itT))=some (qbb (bndD n) (bs.map itT)) from JVa _ (by omega)];simp only[jAb];rw[show zGa ⟨fldF a w d (vB (bndD n)),qbb (bndD n) (bs.map itT)⟩=some (msgF (Ysa a w d bs n)) from vCa _ hsm];simp only[jAb];cases (msgF (Ysa a w d bs n)).Code !=0 <;> rfl
def Kpa(y:Int):Bool:=y % 4==0 && (y % 100 !=0 || y % 400==0)
def befI(y:Int):Int:=365 * (y - 1)+(y - 1) / 4 - (y - 1) / 100+(y - 1) / 400
def ylen(y:Int):Int:=if Kpa y then 366 else 365
theorem jya(y:Int):befI (y+1)=befI y+ylen y:=by
 unfold befI ylen Kpa;by_cases h4:y % 4=0 <;> by_cases h100:y % 100=0 <;> by_cases h400:y % 400=0 <;> simp[h4,h100,h400] <;> omega
theorem Kja(y:Int):365<=ylen y/\ylen y<=366:=by unfold ylen;split <;> omega
theorem qRb(y:Int)(k:Nat):befI y+365 * k<=befI (y+k)/\befI (y+k)<=befI y+366 * k:=by
 induction k with
 | zero=>simp
 | succ k ih=>
  have h:=jya (y+k);have h2:=Kja (y+k);rw[show y+((k+1:Nat):Int)=y+k+1 by omega,h];omega
theorem ZEa{a b:Int}(h:a<=b):befI a<=befI b:=by
 have:=(qRb a (b - a).toNat).1;rw[show a+((b - a).toNat:Int)=b by omega]at this;omega
def dimI(y m:Int):Int:=if m=2 then (if Kpa y then 29 else 28) else if m=4∨m=6∨m=9∨m=11 then 30 else 31
def domI(y:Int):Nat->Int
 | 0=>0
 | m+1=>domI y m+dimI y ((m+1:Nat):Int)
theorem qcb(y:Int):domI y 12=ylen y:=by
 unfold ylen;cases h:Kpa y <;> simp[domI,dimI,h]
theorem jUa(y m:Int):28<=dimI y m/\dimI y m<=31:=by unfold dimI;repeat' split <;> omega
theorem domI_lt(y:Int){a b:Nat}(h:a < b):domI y a+28<=domI y b:=by
 induction b with
 | zero=>omega
 | succ b ih=>
  have:=jUa y ((b+1:Nat):Int);rw[domI];by_cases e:a=b
  .subst e;omega
  have:=ih (by omega);omega
theorem jza(y k:Int):(iRem y k==0)=(y % k==0):=by
 unfold iRem;rw[jBd,beq_iff_eq,beq_iff_eq];constructor
 .intro h;exact Int.emod_eq_zero_of_dvd (Int.dvd_of_tmod_eq_zero h)
 intro h;exact Int.tmod_eq_zero_of_dvd (Int.dvd_of_emod_eq_zero h)
theorem JXa(y:Int):jla y=some (Kpa y):=by
 unfold jla Kpa bne;rw[jza,jza,jza];cases y % 4==0 <;> cases y % 100==0 <;> cases y % 400==0 <;> rfl
theorem QRa(y:Int):QEa y=some (Kpa y):=by
 unfold QEa Kpa bne;rw[jza,jza,jza];have h:(y % 4==0)=false->(y % 400==0)=false:=by
  intro h;rw[beq_eq_false_iff_ne]at h ⊢;omega
 revert h
 cases y % 4==0 <;> cases y % 100==0 <;> cases y % 400==0 <;> simp
theorem jVa{a b:Int}(ha:0<=a)(hb:0 < b)(h:a<=9223372036854775807):iQuo a b=a / b:=by
 unfold iQuo;rw[Int.tdiv_eq_ediv_of_nonneg ha];have h1:0<=a / b:=Int.ediv_nonneg ha (by omega);have h2:a / b<=a:=Int.ediv_le_self b ha;exact zDa (by omega) (by omega)
theorem ZFa{y:Int}(h1:1<=y)(h2:y<=100000):vGa y=some (befI y):=by
 unfold vGa befI;have e0:w64 (y - 1)=y - 1:=zDa (by omega) (by omega);have e1:w64 (365 * (y - 1))=365 * (y - 1):=zDa (by omega) (by omega);rw[e0,e1,jVa (by omega) (by omega) (by omega),jVa (by omega) (by omega) (by omega),jVa (by omega) (by omega) (by omega)];have e2:w64 (365 * (y - 1)+(y - 1) / 4)=365 * (y - 1)+(y - 1) / 4:=zDa (by omega) (by omega);have e3:w64 (365 * (y - 1)+(y - 1) / 4 - (y - 1) / 100)=365 * (y - 1)+(y - 1) / 4 - (y - 1) / 100:=zDa (by omega) (by omega);rw[e2,e3,zDa (by omega) (by omega)]
theorem ZGa{y m:Int}(h1:1<=m)(h2:m<=12):vHa y m=some (dimI y m):=by
 unfold vHa;have e0:w64 (m - 1)=m - 1:=zDa (by omega) (by omega);rw[e0,JXa];obtain rfl | rfl | rfl | rfl | rfl | rfl | rfl | rfl | rfl | rfl | rfl | rfl:m=1∨m=2∨m=3∨m=4∨m=5∨m=6∨m=7∨m=8∨m=9∨m=10∨m=11∨m=12:=by omega
 all_goals (cases h:Kpa y <;> simp[dimI,h,idx] <;> rfl)
theorem W7a(y:Int)(n:Nat):0<=domI y n/\domI y n<=31 * n:=by
 induction n with
 | zero=>simp[domI]
 | succ n ih=>have:=jUa y ((n+1:Nat):Int);rw[domI];omega
theorem qSb(y:Int):∀(r j:Nat) (n:Int),j+r<=12-> -100000000<=n->n+31 * r<=100000000->iter (vIa y ((j+r+1:Nat):Int)) (n,((j+1:Nat):Int))=some (n+(domI y (j+r) - domI y j))
 | 0,j,n,h1,h2,h3=>by
  refine zva ?_;unfold vIa;dsimp only;rw[decide_eq_false (by omega)];simp
 | r+1,j,n,h1,h2,h3=>by
  have hd:=jUa y ((j+1:Nat):Int);have hc:vIa y ((j+(r+1)+1:Nat):Int) (n,((j+1:Nat):Int))=some (.cont (n+dimI y ((j+1:Nat):Int),((j+1+1:Nat):Int))):=by
   unfold vIa;dsimp only;rw[decide_eq_true (by omega),ZGa (by omega) (by omega)];simp only[cond_true,jAb];rw[zDa (by omega) (by omega),zDa (by omega) (by omega)];rfl
  rw[zLa hc];have:=qSb y r (j+1) (n+dimI y ((j+1:Nat):Int)) (by omega) (by omega) (by omega);rw[show j+1+r+1=j+(r+1)+1 by omega]at this;rw[this,show j+1+r=j+(r+1) by omega,domI]
  congr 1
  omega
def dayN(y:Int)(m:Nat)(d:Int):Int:=befI y - befI 1970+d - 1+domI y (m - 1)
theorem v4a:befI 1970=719162:=by decide
theorem jAa{y:Int}(h1:1<=y)(h2:y<=5000):0<=befI y/\befI y<=2000000:=by unfold befI;omega
theorem qka{y d:Int}{m:Nat}(h1:1<=y)(h2:y<=5000)(hm1:1<=m)(hm2:m<=12)(hd1:0<=d)(hd2:d<=1000):qYa y m d=some (dayN y m d):=by
 have hb:=jAa h1 h2;unfold qYa;rw[ZFa h1 (by omega),ZFa (by omega:(1:Int)<=1970) (by omega),v4a];simp only[jAb];have e1:w64 (befI y - 719162)=befI y - 719162:=zDa (by omega) (by omega);have e2:w64 (befI y - 719162+d)=befI y - 719162+d:=zDa (by omega) (by omega);have e3:w64 (befI y - 719162+d - 1)=befI y - 719162+d - 1:=zDa (by omega) (by omega);rw[e1,e2,e3];have:=qSb y (m - 1) 0 (befI y - 719162+d - 1) (by omega) (by omega) (by omega);rw[show 0+(m - 1)+1=m by omega,jBo]at this;rw[show ((0+1:Nat):Int)=1 from rfl]at this;rw[this];unfold dayN;rw[v4a];simp[domI]
theorem qdb(y:Int):dayN y 1 1=befI y - 719162:=by unfold dayN;rw[v4a];simp[domI]
theorem vIb{v:Int × Int}{Y:Int}(h1:1<=Y)(h2:Y<=4000)(hY:befI Y<=v.1+719162/\v.1+719162 < befI (Y+1)):∀(k:Nat) (y:Int),k<=11->1<=y->y<=Y->Y < y+2 * ((2 ^ k:Nat):Int)->iter (qHa v) (y,((2 ^ k:Nat):Int))=some Y:=by
 have step:∀(s:Nat) (y:Int),1<=s->s<=2048->1<=y->y<=Y->qHa v (y,(s:Int))=some (.cont (if y+s<=Y then y+s else y,((s / 2:Nat):Int))):=by
  intro s y hs1 hs2 hy1 hy2;unfold qHa;dsimp only;rw[decide_eq_true (by omega:(0:Int) < (s:Int))];have e1:w64 (y+(s:Int))=y+s:=zDa (by omega) (by omega);have e2:iQuo (s:Int) 2=((s / 2:Nat):Int):=by rw[jVa (by omega) (by omega) (by omega)];omega
  rw[e1,e2];simp only[cond_true];by_cases h4:y+s<=4000
  .rw[decide_eq_true h4];have hd:=qka (y:=y+s) (d:=1) (m:=1) (by omega) (by omega) (by omega) (by omega) (by omega) (by omega);rw[show ((1:Nat):Int)=1 from rfl]at hd;rw[hd,qdb];simp only[cond_true,jAb];by_cases hc:y+s<=Y
   .have:=ZEa hc;rw[if_pos hc,decide_eq_true (by omega)];rfl
   have:=ZEa (show Y+1<=y+s by omega);rw[if_neg hc,decide_eq_false (by omega)];rfl
  rw[decide_eq_false h4,if_neg (by omega)];rfl
 intro k;induction k with
 | zero=>
  intro y _ hy1 hy2 hy3;have hs:=step 1 y (by omega) (by omega) hy1 hy2;rw[show ((2 ^ 0:Nat):Int)=((1:Nat):Int) from rfl,zLa hs];have e:(if y+((1:Nat):Int)<=Y then y+((1:Nat):Int) else y)=Y:=by
   simp only[Nat.pow_zero]at hy3;split <;> omega
  rw[e];exact zva (by unfold qHa;rfl)
 | succ k ih=>
  intro y hk hy1 hy2 hy3;have hp:(2 ^ k:Nat)<=2 ^ 10:=Nat.pow_le_pow_right (by omega) (by omega);have hp1:1<=(2 ^ k:Nat):=Nat.one_le_pow _ _ (by omega);rw[Nat.pow_succ]at hy3 ⊢;generalize hq:(2 ^ k:Nat)=q at *;have hs:=step (q * 2) y (by omega) (by omega) hy1 hy2;rw[zLa hs,show q * 2 / 2=q by omega];refine ih _ (by omega) (by split <;> omega) (by split <;> omega) (by split <;> omega)
theorem QSa(y:Int){a b:Nat}(h:a<=b):domI y a<=domI y b:=by
 rcases jAu a b with h2 | h2
 .have:=domI_lt y h2;omega
 rw[show a=b by omega];omega
theorem qeb{v:Int × Int}{Y:Int}{M:Nat}(h1:1<=Y)(h2:Y<=4000)(hM:M<=11)(hD:domI Y M<=v.1+719162 - befI Y/\v.1+719162 - befI Y < domI Y (M+1)):∀(r:Nat),M+r<=11->iter (qIa v Y) ((M+r+1:Nat):Int)=some ((M+1:Nat):Int):=by
 have val:∀m:Nat,m<=11->qYa Y ((m+1:Nat):Int) 1=some (befI Y - 719162+domI Y m):=by
  intro m hm;rw[qka h1 (by omega) (by omega) (by omega) (by omega) (by omega)];unfold dayN;rw[v4a,Nat.add_sub_cancel]
  congr 1;omega
 intro r;induction r with
 | zero=>
  intro _;refine zva ?_;unfold qIa;rw[jBq,val M hM];simp only[jAb];rw[decide_eq_false (by omega)];rfl
 | succ r ih=>
  intro hr;have hc:qIa v Y ((M+(r+1)+1:Nat):Int)=some (.cont ((M+r+1:Nat):Int)):=by
   unfold qIa;rw[val (M+(r+1)) hr];have:=QSa Y (show M+1<=M+(r+1) by omega);simp only[jAb];rw[decide_eq_true (by omega),zDa (by omega) (by omega)];simp only[cond_true]
   congr 2;omega
  rw[zLa hc];exact ih (by omega)
theorem y7a{n k:Int}(hk1:1<=k)(hk2:k<=1000000)(h1: -1000000000000<=n)(h2:n<=1000000000000):wla n k=some (n / k,n % k):=by
 have hb1:=jCn n (show k≠0 by omega);have hb2:=jCg n (show 0 < k by omega);have ht:(iRem n k+k)=n % k+(if 0<=n∨n % k=0 then k else 0):=by
  unfold iRem;rw[Int.tmod_eq_emod];by_cases h0:0<=n
  .simp[h0]
  by_cases hd:k ∣ n
  .have:=Int.emod_eq_zero_of_dvd hd;simp[hd,this]
  have hne:n % k≠0:=fun h=>hd (Int.dvd_of_emod_eq_zero h)
  have hnat:(k.natAbs:Int)=k:=by omega
  simp[h0,hd,hne,hnat]
 have hr:iRem (iRem n k+k) k=n % k:=by
  rw[ht];unfold iRem;split
  .rw[Int.tmod_eq_emod_of_nonneg (by omega)];simp
  rw[Int.add_zero,Int.tmod_eq_emod_of_nonneg hb1];simp
 unfold wla nz;have hz:(k==0)=false:=by rw[beq_eq_false_iff_ne];omega
 have e1:w64 (iRem n k+k)=iRem n k+k:=by
  refine zDa ?_ ?_ <;> (rw[ht];split <;> omega)
 simp only[hz,jAr,if_false,jAb,e1,hr];have hq:n=k * (n / k)+n % k:=(Int.mul_ediv_add_emod n k).symm;have e2:w64 (n - n % k)=n - n % k:=zDa (by omega) (by omega);rw[e2];have e3:iQuo (n - n % k) k=n / k:=by
  unfold iQuo;have e4:n - n % k=k * (n / k):=by omega
  rw[e4,Int.mul_tdiv_cancel_left _ (by omega)];have h3: -1000000000000<=n / k:=Int.le_ediv_of_mul_le (by omega) (by omega);have h4:n / k<=1000000000000:=Int.ediv_le_of_le_mul (by omega) (by omega);exact zDa (by omega) (by omega)
 rw[e3]
theorem QTa:befI 1=0:=by decide
theorem zYb:befI 4001=1460970:=by decide
theorem zZb:befI 4000=1460604:=by decide
theorem VWa(y n:Int)(h0:0<=n):∀k:Nat,n < domI y k->∃M:Nat,M < k/\domI y M<=n/\n < domI y (M+1)
 | 0,h=>by simp only[domI]at h;omega
 | k+1,h=>by
  by_cases h2:n < domI y k
  .obtain ⟨M,h3,h4⟩:=VWa y n h0 k h2;exact ⟨M,by omega,h4⟩
  exact ⟨k,by omega,by omega,h⟩
theorem Vxa{a b:Int}(h:0<=a):iRem a b=a % b:=Int.tmod_eq_emod_of_nonneg h
theorem when_l1(t:Int)(h1: -68719476736<=t)(h2:t<=68719476736):∃r:Int × Int,iter jna (t,0)=some r/\0<=r.1/\r.1+86400 * r.2=t/\r.1<=68719476736:=by
 have key:=jSa (body:=jna) (fun s=>s.1+86400 * s.2=t/\ -68719476736<=s.1/\s.1<=68719476736/\s.2<=0/\ -1000000<=s.2/\t<=s.1) (fun s=>(-s.1).toNat) (fun s r=>0<=r.1/\r.1+86400 * r.2=t/\r.1<=68719476736) (fun s hs=>by
  obtain ⟨i1,i2,i3,i4,i5,i6⟩:=hs;by_cases hc:s.1 < 0
  .right;refine ⟨(s.1+34560000,s.2 - 400),?_,⟨?_,?_,?_,?_,?_,?_⟩,?_,fun r h=>h⟩
   .unfold jna;rw[decide_eq_true hc,zDa (by omega) (by omega),zDa (by omega) (by omega)];rfl
   all_goals (dsimp only;omega)
  left;refine ⟨s,?_,⟨by omega,i1,i3⟩⟩;unfold jna;rw[decide_eq_false hc];rfl)
 exact key (t,0) ⟨by simp,h1,h2,by simp,by simp,by simp⟩
theorem when_l2(D:Int)(h1: -800000<=D)(h2:D<=800000):∃r:Int × Int,iter joa (D,1970)=some r/\0<=r.1/\befI r.2+r.1=719162+D/\r.1<=800000/\ -10000<=r.2/\r.2<=1970:=by
 have key:=jSa (body:=joa) (fun s=>befI s.2+s.1=719162+D/\s.1<=800000/\ -800000<=s.1/\s.2<=1970/\ -800000+365 * (1970 - s.2)<=s.1) (fun s=>(-s.1).toNat) (fun s r=>0<=r.1/\befI r.2+r.1=719162+D/\r.1<=800000/\ -10000<=r.2/\r.2<=1970) (fun s hs=>by
  obtain ⟨i1,i2,i3,i4,i5⟩:=hs;by_cases hc:s.1 < 0
  .right;have hy:=jya (s.2 - 1);rw[show s.2 - 1+1=s.2 by omega]at hy;have hb:=Kja (s.2 - 1);have hb2:ylen (s.2 - 1)=if Kpa (s.2 - 1) then 366 else 365:=rfl;have e1:w64 (s.2 - 1)=s.2 - 1:=zDa (by omega) (by omega);refine ⟨(s.1+ylen (s.2 - 1),s.2 - 1),?_,⟨?_,?_,?_,?_,?_⟩,?_,fun r h=>h⟩
   .unfold joa;rw[decide_eq_true hc,e1,QRa];simp only[cond_true,jAb];have e2:w64 (s.1+365)=s.1+365:=zDa (by omega) (by omega);have e3:w64 (s.1+365+1)=s.1+365+1:=zDa (by omega) (by omega);rw[e2,e3,hb2];cases Kpa (s.2 - 1)
    .rfl
    simp only[cond_true,if_true];rw[show s.1+365+1=s.1+366 by omega]
   all_goals (dsimp only;omega)
  left;refine ⟨s,?_,⟨by omega,i1,i2,by omega,i4⟩⟩;unfold joa;rw[decide_eq_false hc];rfl)
 exact key (D,1970) ⟨by rw[v4a],by omega,by omega,by simp,by simp;omega⟩
theorem when_l3(N:Int)(s0:Int × Int)(h0:0<=s0.1)(h1:s0.1<=800000)(h2: -10000<=s0.2)(h3:s0.2<=1970)(hN:befI s0.2+s0.1=N):∃r:Int × Int,iter jpa s0=some r/\0<=r.1/\r.1 < ylen r.2/\befI r.2+r.1=N/\ -10000<=r.2/\r.2<=10000:=by
 have key:=jSa (body:=jpa) (fun s=>befI s.2+s.1=N/\0<=s.1/\s.1<=800000/\ -10000<=s.2/\s.1+365 * (s.2 - s0.2)<=800000) (fun s=>s.1.toNat) (fun s r=>0<=r.1/\r.1 < ylen r.2/\befI r.2+r.1=N/\ -10000<=r.2/\r.2<=10000) (fun s hs=>by
  obtain ⟨i1,i2,i3,i4,i5⟩:=hs;have hy:=jya s.2;have hb:=Kja s.2;have hb2:ylen s.2=if Kpa s.2 then 366 else 365:=rfl;have hj:((QEa s.2).bind fun v19=>(bif v19 then some 366 else some 365):Option Int)=some (ylen s.2):=by
   rw[QRa,hb2];cases Kpa s.2 <;> rfl
  by_cases hc:s.1 < ylen s.2
  .left;refine ⟨s,?_,⟨i2,hc,i1,i4,by omega⟩⟩;unfold jpa;rw[hj];simp only[jAb];rw[decide_eq_true hc];rfl
  right;refine ⟨(s.1 - ylen s.2,s.2+1),?_,⟨?_,?_,?_,?_,?_⟩,?_,fun r h=>h⟩
  .unfold jpa;rw[hj];simp only[jAb];rw[decide_eq_false hc,zDa (by omega) (by omega),zDa (by omega) (by omega)];rfl
  all_goals (dsimp only;omega))
 exact key s0 ⟨hN,h0,h1,h2,by omega⟩
theorem z0b{y m:Int}(h1:1<=m)(h2:m<=12):YPa y m=some (dimI y m):=by
 unfold YPa;have e0:w64 (m - 1)=m - 1:=zDa (by omega) (by omega);rw[e0,QRa];obtain rfl | rfl | rfl | rfl | rfl | rfl | rfl | rfl | rfl | rfl | rfl | rfl:m=1∨m=2∨m=3∨m=4∨m=5∨m=6∨m=7∨m=8∨m=9∨m=10∨m=11∨m=12:=by omega
 all_goals (cases h:Kpa y <;> simp[dimI,h,idx])
theorem yeb(b:Int × Int)(M:Nat)(hM:M<=11)(hd:domI b.2 M<=b.1/\b.1 < domI b.2 (M+1))(hb:b.1<=400):∀(n k:Nat),k+n=M->iter (jqa b) (((k+1:Nat):Int),b.1 - domI b.2 k)=some (((M+1:Nat):Int),b.1 - domI b.2 M)
 | 0,k,h=>by
  obtain rfl:k=M:=by omega
  refine zva ?_;unfold jqa;dsimp only;rw[z0b (by omega) (by omega)];simp only[jAb];have:=W7a b.2 k;rw[decide_eq_false (by simp only[domI]at hd;omega)];rfl
 | n+1,k,h=>by
  have hk:=QSa b.2 (show k+1<=M by omega);have hn:=W7a b.2 k;have hp:=jUa b.2 ((k+1:Nat):Int);have e:domI b.2 (k+1)=domI b.2 k+dimI b.2 ((k+1:Nat):Int):=rfl;have hc:jqa b (((k+1:Nat):Int),b.1 - domI b.2 k)=some (.cont (((k+1+1:Nat):Int),b.1 - domI b.2 (k+1))):=by
   unfold jqa;dsimp only;rw[z0b (by omega) (by omega)];simp only[jAb];rw[decide_eq_true (by omega),zDa (by omega) (by omega),zDa (by omega) (by omega)];simp only[cond_true]
   congr 3
   omega
  rw[zLa hc];exact yeb b M hM hd hb n (k+1) (by omega)
theorem yfb(b:Int × Int)(hy:1<=b.2)(hy2:b.2<=4000):∀(n:Nat) (k:Int),1<=k->k+n=b.2->iter (jra b) (befI k - 364 * (k - 1)+1,k)=some (befI b.2 - 364 * (b.2 - 1)+1)
 | 0,k,h1,h=>by
  obtain rfl:b.2=k:=by omega
  refine zva ?_;unfold jra;dsimp only;rw[decide_eq_false (by omega)];rfl
 | n+1,k,h1,h=>by
  have hs:=jya k;have hb2:ylen k=if Kpa k then 366 else 365:=rfl;have hb0:=jAa h1 (by omega);have hc:jra b (befI k - 364 * (k - 1)+1,k)=some (.cont (befI (k+1) - 364 * (k+1 - 1)+1,k+1)):=by
   unfold jra;dsimp only;rw[decide_eq_true (by omega),QRa];have e1:w64 (befI k - 364 * (k - 1)+1+1)=befI k - 364 * (k - 1)+1+1:=zDa (by omega) (by omega);have e2:w64 (befI k - 364 * (k - 1)+1+1+1)=befI k - 364 * (k - 1)+1+1+1:=zDa (by omega) (by omega);have e3:w64 (k+1)=k+1:=zDa (by omega) (by omega);simp only[cond_true,jAb];rw[e1,e2,e3];cases hl:Kpa k
   .rw[hl]at hb2;simp only[cond_false,jAb]
    congr 3
    simp at hb2;omega
   rw[hl]at hb2;simp only[cond_true,jAb]
   congr 3
   simp at hb2;omega
  rw[zLa hc];exact yfb b hy hy2 n (k+1) (by omega) (by omega)
def wdT(w:Nat):Str:=(([83,117,110,77,111,110,84,117,101,87,101,100,84,104,117,70,114,105,83,97,116]:Str).drop (3 * w)).take 3
def moT(m:Nat):Str:=(([74,97,110,70,101,98,77,97,114,65,112,114,77,97,121,74,117,110,74,117,108,65,117,103,83,101,112,79,99,116,78,111,118,68,101,99]:Str).drop (3 * m)).take 3
theorem wd_cut:∀w:Fin 7,cut (([83,117,110,77,111,110,84,117,101,87,101,100,84,104,117,70,114,105,83,97,116]:Str)) ((w64 (3 * (w.val:Int)))) ((w64 ((w64 (3 * (w.val:Int)))+3)))=some (wdT w.val):=by decide
theorem mo_cut:∀m:Fin 12,cut (([74,97,110,70,101,98,77,97,114,65,112,114,77,97,121,74,117,110,74,117,108,65,117,103,83,101,112,79,99,116,78,111,118,68,101,99]:Str)) ((w64 ((w64 (3 * ((m.val+1:Nat):Int))) - 3))) ((w64 (3 * ((m.val+1:Nat):Int))))=some (moT m.val):=by decide
theorem wd_idx:∀w:Fin 7,vna.bind (fun v30=>(idx ([v30.1,v30.2.1,v30.2.2.1,v30.2.2.2.1,v30.2.2.2.2.1,v30.2.2.2.2.2.1,v30.2.2.2.2.2.2]:List Str) (w.val:Int)))=some (wdT w.val):=by decide
theorem mo_idx:∀m:Fin 12,wNa.bind (fun v38=>(idx ([v38.1,v38.2.1,v38.2.2.1,v38.2.2.2.1,v38.2.2.2.2.1,v38.2.2.2.2.2.1,v38.2.2.2.2.2.2.1,v38.2.2.2.2.2.2.2.1,v38.2.2.2.2.2.2.2.2.1,v38.2.2.2.2.2.2.2.2.2.1,v38.2.2.2.2.2.2.2.2.2.2.1,v38.2.2.2.2.2.2.2.2.2.2.2]:List Str) (m.val:Int)))=some (moT m.val):=by decide
theorem qfb:∀w:Fin 7,(wdT w.val).length=3:=by decide
theorem qgb:∀m:Fin 12,(moT m.val).length=3:=by decide
def Vya(w D m y h mi s:Nat):Str:=wdT w++ [44,32]++padD D 2++ [32]++moT m++ [32]++padD y 4++ [32]++padD h 2++ [58]++padD mi 2++ [58]++padD s 2++ [32,43,48,48,48,48]
theorem yDa(a b c:Int):kna a b c=some (decide (b<=a) && decide (a<=c)):=by
 unfold kna;by_cases h:b<=a <;> simp[h]
theorem jWa(t:Int):jia t=some (decide (-68719476736<=t) && decide (t<=68719476736)):=by
 unfold jia;by_cases h:(-68719476736:Int)<=t <;> simp[h]
theorem pad2{u:Nat}(h:u < 1000000):kMa (u:Int) 2=some (padD u 2):=VUa u 2 (by omega) (by omega)
theorem pad4{u:Nat}(h:u < 1000000):kMa (u:Int) 4=some (padD u 4):=VUa u 4 (by omega) (by omega)
theorem fill2{u:Nat}(h:u < 1000000):Zxa (u:Int) 2=some (padD u 2):=zTb u 2 (by omega) (by omega)
theorem fill4{u:Nat}(h:u < 1000000):Zxa (u:Int) 4=some (padD u 4):=zTb u 4 (by omega) (by omega)
theorem VXa:domI 4000 11=335:=by decide
theorem ygb(t:Int)(h1: -68719476736<=t)(h2:t<=68719476736)(hN:t / 86400+719162 < 0∨1460970<=t / 86400+719162):∃d,kCa t 0=some (d,⟨3, -3⟩):=by
 unfold kCa;rw[jWa,decide_eq_true h1,decide_eq_true h2];simp only[jAb,jCd,jBg,cond_false,yDa];have e1:w64 (60 * (0:Int))=0:=by decide
 have e2:w64 (t+0)=t:=by rw[Int.add_zero];exact zDa (by omega) (by omega)
 have d1:=qka (y:=1) (m:=1) (d:=1) (by omega) (by omega) (by omega) (by omega) (by omega) (by omega);have d2:=qka (y:=4000) (m:=12) (d:=31) (by omega) (by omega) (by omega) (by omega) (by omega) (by omega);rw[show ((1:Nat):Int)=1 from rfl,qdb,QTa]at d1;have e3:dayN 4000 12 31=741807:=by unfold dayN;rw[v4a,zZb];show (1460604:Int) - 719162+31 - 1+domI 4000 11=_;rw[VXa];rfl
 rw[show ((12:Nat):Int)=12 from rfl,e3]at d2;rw[e1,e2,y7a (by omega) (by omega) (by omega) (by omega),d1];rw[show (decide ((-900:Int)<=0) && decide ((0:Int)<=900))=true by decide];simp only[jAb,jBg,cond_false];rcases hN with hN | hN
 .rw[decide_eq_true (by omega:t / 86400 < 0 - 719162)];exact ⟨_,rfl⟩
 rw[decide_eq_false (by omega:¬t / 86400 < 0 - 719162),d2];simp only[jAb,cond_false];rw[decide_eq_true (by omega:741807 < t / 86400)];exact ⟨_,rfl⟩
theorem civil_in(t:Int)(h1: -68719476736<=t)(h2:t<=68719476736)(Y:Int)(M:Nat)(g:Int)(hY1:1<=Y)(hY2:Y<=4000)(hM:M<=11)(hN:befI Y+g=t / 86400+719162)(hd:domI Y M<=g/\g < domI Y (M+1)):
 kCa t 0=some (⟨Y,((M+1:Nat):Int),g - domI Y M+1,t % 86400 / 3600,t % 86400 / 60 % 60,t % 86400 % 60,0⟩,⟨0,0⟩):=by
 have hb0:=jAa hY1 (by omega);have hn:=W7a Y M;have hm12:=QSa Y (show M+1<=12 by omega);have hyl:=Kja Y;have hys:=jya Y;have h40:=ZEa (show Y+1<=4001 by omega);rw[qcb]at hm12;rw[zYb]at h40;have hr1:=jCn t (show (86400:Int)≠0 by omega);have hr2:=jCg t (show (0:Int) < 86400 by omega);unfold kCa;rw[jWa,decide_eq_true h1,decide_eq_true h2];simp only[jAb,jCd,jBg,cond_false,yDa];have e1:w64 (60 * (0:Int))=0:=by decide
 have e2:w64 (t+0)=t:=by rw[Int.add_zero];exact zDa (by omega) (by omega)
 have d1:=qka (y:=1) (m:=1) (d:=1) (by omega) (by omega) (by omega) (by omega) (by omega) (by omega);have d2:=qka (y:=4000) (m:=12) (d:=31) (by omega) (by omega) (by omega) (by omega) (by omega) (by omega);rw[show ((1:Nat):Int)=1 from rfl,qdb,QTa]at d1;have e3:dayN 4000 12 31=741807:=by unfold dayN;rw[v4a,zZb];show (1460604:Int) - 719162+31 - 1+domI 4000 11=_;rw[VXa];rfl
 rw[show ((12:Nat):Int)=12 from rfl,e3]at d2;rw[e1,e2,y7a (by omega) (by omega) (by omega) (by omega),d1];rw[show (decide ((-900:Int)<=0) && decide ((0:Int)<=900))=true by decide];simp only[jAb,jBg,cond_false];rw[decide_eq_false (by omega:¬t / 86400 < 0 - 719162),d2];simp only[jAb,cond_false];rw[decide_eq_false (by omega:¬741807 < t / 86400)];simp only[cond_false];have hy:=vIb (v:=(t / 86400,t % 86400)) hY1 hY2 (by dsimp only;omega) 11 1 (by omega) (by omega) (by omega) (by rw[show ((2 ^ 11:Nat):Int)=2048 from rfl];omega);rw[show ((2 ^ 11:Nat):Int)=2048 from rfl]at hy;rw[hy];simp only[jAb];have hm:=qeb (v:=(t / 86400,t % 86400)) hY1 hY2 hM (by dsimp only;omega) (11 - M) (by omega);rw[show M+(11 - M)+1=12 by omega,show ((12:Nat):Int)=12 from rfl]at hm;rw[hm];simp only[jAb];rw[qka hY1 (by omega) (by omega) (by omega) (by omega) (by omega)];simp only[jAb,kga];have e4:dayN Y (M+1) 1=befI Y - 719162+domI Y M:=by unfold dayN;rw[v4a,Nat.add_sub_cancel];omega
 have e5:w64 (t / 86400 - dayN Y (M+1) 1)=g - domI Y M:=by rw[e4,zDa (by omega) (by omega)];omega
 have e6:w64 (g - domI Y M+1)=g - domI Y M+1:=zDa (by omega) (by omega);rw[e5,e6,jVa hr1 (by omega) (by omega),jVa hr1 (by omega) (by omega),Vxa (by omega),Vxa (by omega)]
theorem print_in(t:Int)(Y:Int)(M:Nat)(g:Int)(hY1:1<=Y)(hY2:Y<=4000)(hM:M<=11)(hN:befI Y+g=t / 86400+719162)(hd:domI Y M<=g/\g < domI Y (M+1)):
 vAa ⟨Y,((M+1:Nat):Int),g - domI Y M+1,t % 86400 / 3600,t % 86400 / 60 % 60,t % 86400 % 60,0⟩=some (Vya ((t / 86400+4) % 7).toNat (g - domI Y M+1).toNat M Y.toNat (t % 86400 / 3600).toNat (t % 86400 / 60 % 60).toNat (t % 86400 % 60).toNat,⟨0,0⟩):=by
 have hb0:=jAa hY1 (by omega);have hn:=W7a Y M;have hm12:=QSa Y (show M+1<=12 by omega);have hyl:=Kja Y;rw[qcb]at hm12;have hr1:=jCn t (show (86400:Int)≠0 by omega);have hr2:=jCg t (show (0:Int) < 86400 by omega);have hds:domI Y (M+1)=domI Y M+dimI Y ((M+1:Nat):Int):=rfl;have hdp:=jUa Y ((M+1:Nat):Int);have hmm:min (max ((M+1:Nat):Int) 1) 12=((M+1:Nat):Int):=by omega
 have hval:vma ⟨Y,((M+1:Nat):Int),g - domI Y M+1,t % 86400 / 3600,t % 86400 / 60 % 60,t % 86400 % 60,0⟩=some ⟨0,0⟩:=by
  unfold vma;simp only[yDa,hmm,jAb];rw[ZGa (by omega) (by omega)];rw[decide_eq_true hY1,decide_eq_true hY2,decide_eq_true (by omega:(1:Int)<=((M+1:Nat):Int)),decide_eq_true (by omega:((M+1:Nat):Int)<=12)];simp only[jAb,jCd,cond_true];rw[decide_eq_true (by omega:(1:Int)<=g - domI Y M+1),decide_eq_true (by omega:g - domI Y M+1<=dimI Y ((M+1:Nat):Int)),
   decide_eq_true (by omega:(0:Int)<=t % 86400 / 3600),decide_eq_true (by omega:t % 86400 / 3600<=23),
   decide_eq_true (by omega:(0:Int)<=t % 86400 / 60 % 60),decide_eq_true (by omega:t % 86400 / 60 % 60<=59),
   decide_eq_true (by omega:(0:Int)<=t % 86400 % 60),decide_eq_true (by omega:t % 86400 % 60<=59)]
  rfl
 have hwk:vXa ⟨Y,((M+1:Nat):Int),g - domI Y M+1,t % 86400 / 3600,t % 86400 / 60 % 60,t % 86400 % 60,0⟩=some ((t / 86400+4) % 7,⟨0,0⟩):=by
  unfold vXa;rw[hval];simp only[jAb,zPa,kga];rw[qka hY1 (by omega) (by omega) (by omega) (by omega) (by omega)];have e4:dayN Y (M+1) (g - domI Y M+1)=t / 86400:=by unfold dayN;rw[v4a,Nat.add_sub_cancel];omega
  simp only[jAb,e4];rw[zDa (by omega) (by omega),y7a (by omega) (by omega) (by omega) (by omega)];rfl
 unfold vAa;rw[hwk];simp only[jAb,zPa,kga];have hw7:=jCn (t / 86400+4) (show (7:Int)≠0 by omega);have hw8:=jCg (t / 86400+4) (show (0:Int) < 7 by omega);have hwi:=wd_idx ⟨((t / 86400+4) % 7).toNat,by omega⟩;have hmi:=mo_idx ⟨M,by omega⟩;dsimp only at hwi hmi;rw[show ((((t / 86400+4) % 7).toNat:Nat):Int)=(t / 86400+4) % 7 by omega]at hwi;have ew:w64 (((M+1:Nat):Int) - 1)=(M:Int):=by rw[zDa (by omega) (by omega)];omega
 have p0:kMa (iQuo 0 60) 2=some (padD 0 2):=pad2 (u:=0) (by omega);have p0' :kMa (iRem 0 60) 2=some (padD 0 2):=pad2 (u:=0) (by omega);have p1:=pad2 (u:=(t % 86400 / 3600).toNat) (by omega);have p2:=pad2 (u:=(t % 86400 / 60 % 60).toNat) (by omega);have p3:=pad2 (u:=(t % 86400 % 60).toNat) (by omega);have p4:=pad2 (u:=(g - domI Y M+1).toNat) (by omega);have p5:=pad4 (u:=Y.toNat) (by omega);have l1:=qwa (u:=(t % 86400 / 3600).toNat) (k:=2) (by omega) (by omega);have l2:=qwa (u:=(t % 86400 / 60 % 60).toNat) (k:=2) (by omega) (by omega);have l3:=qwa (u:=(t % 86400 % 60).toNat) (k:=2) (by omega) (by omega);have l4:=qwa (u:=(g - domI Y M+1).toNat) (k:=2) (by omega) (by omega);have l5:=qwa (u:=Y.toNat) (k:=4) (by omega) (by omega);have lw:=qfb ⟨((t / 86400+4) % 7).toNat,by omega⟩;have lm:=qgb ⟨M,by omega⟩;dsimp only at lw lm;rw[show (((t % 86400 / 3600).toNat:Nat):Int)=t % 86400 / 3600 by omega]at p1;rw[show (((t % 86400 / 60 % 60).toNat:Nat):Int)=t % 86400 / 60 % 60 by omega]at p2;rw[show (((t % 86400 % 60).toNat:Nat):Int)=t % 86400 % 60 by omega]at p3;rw[show (((g - domI Y M+1).toNat:Nat):Int)=g - domI Y M+1 by omega]at p4;rw[show ((Y.toNat:Nat):Int)=Y by omega]at p5;have pz:padD 0 2=[48,48]:=by unfold padD;rw[qia (by omega)];rfl
 generalize hPw:wdT ((t / 86400+4) % 7).toNat=Pw at *;generalize hPm:moT M=Pm at *;generalize hP1:padD (t % 86400 / 3600).toNat 2=P1 at *;generalize hP2:padD (t % 86400 / 60 % 60).toNat 2=P2 at *;generalize hP3:padD (t % 86400 % 60).toNat 2=P3 at *;generalize hP4:padD (g - domI Y M+1).toNat 2=P4 at *;generalize hP5:padD Y.toNat 4=P5 at *;rw[show (decide ((0:Int) < 0))=false by decide];simp only[cond_false,jAb,bne_self_eq_false,p0,p0',p1,p2,p3,pz];rw[vaa (by simp)];simp only[jAb];rw[vaa (by simp)];simp only[jAb];rw[vaa (by simp;omega)];simp only[jAb];rw[vaa (by simp;omega)];simp only[jAb];rw[vaa (by simp;omega)];simp only[jAb];rw[vaa (by simp;omega)];simp only[jAb];unfold vna wNa at *;simp only[jAb]at hwi hmi ⊢;rw[hwi];simp only[jAb];rw[vaa (by simp;omega),p4,ew,hmi,p5];simp only[jAb];unfold qXa Vya;have ej:Lib.join [Pw++ [44],P4,Pm,P5,P1++ [58]++P2++ [58]++P3,[43]++([48,48]++ [48,48])] [32]=Pw++ [44,32]++P4++ [32]++Pm++ [32]++P5++ [32]++P1++ [58]++P2++ [58]++P3++ [32,43,48,48,48,48]:=by
  rw[Lib.join_cons];simp[Lib.joinTail]
 rw[ej,if_pos ⟨by simp,by simp;omega⟩,hPw,hPm,hP1,hP2,hP3,hP4,hP5];rfl
theorem yhb{Pw P4 Pm P5 P1 P2 P3:Str}{Fw F4 Fm F5 F1 F2 F3:Option Str}(hw:Fw=some Pw)(h4:F4=some P4)(hm:Fm=some Pm)(h5:F5=some P5)(h1:F1=some P1)(h2:F2=some P2)(h3:F3=some P3)
 (lw:Pw.length=3) (l4:P4.length=2) (lm:Pm.length=3) (l5:P5.length=4) (l1:P1.length=2) (l2:P2.length=2) (l3:P3.length=2):
 (Fw.bind fun v42=>(cat v42 (([44,32]:Str))).bind fun v44=>F4.bind fun v46=>(cat v44 v46).bind fun v48=>(cat v48 (([32]:Str))).bind fun v50=>Fm.bind fun v52=>(cat v50 v52).bind fun v54=>(cat v54 (([32]:Str))).bind fun v56=>F5.bind fun v58=>(cat v56 v58).bind fun v60=>(cat v60 (([32]:Str))).bind fun v62=>F1.bind fun v64=>(cat v62 v64).bind fun v66=>(cat v66 (([58]:Str))).bind fun v68=>F2.bind fun v70=>(cat v68 v70).bind fun v72=>(cat v72 (([58]:Str))).bind fun v74=>F3.bind fun v76=>(cat v74 v76).bind fun v78=>(cat v78 (([32,43,48,48,48,48]:Str))).bind fun v80=>some ((v80,true)))=
  some (Pw++ [44,32]++P4++ [32]++Pm++ [32]++P5++ [32]++P1++ [58]++P2++ [58]++P3++ [32,43,48,48,48,48],true):=by
 subst hw h4 hm h5 h1 h2 h3;simp only[jAb];repeat (rw[vaa (by simp;omega)];simp only[jAb])
theorem yib(t:Int)(h1: -68719476736<=t)(h2:t<=68719476736):(jsa t=some ([],false)/\(t / 86400+719162 < 0∨1460970<=t / 86400+719162))∨
 ∃(Y:Int) (M:Nat) (g:Int),1<=Y/\Y<=4000/\M<=11/\befI Y+g=t / 86400+719162/\(domI Y M<=g/\g < domI Y (M+1))/\
  jsa t=some (Vya ((t / 86400+4) % 7).toNat (g - domI Y M+1).toNat M Y.toNat (t % 86400 / 3600).toNat (t % 86400 / 60 % 60).toNat (t % 86400 % 60).toNat,true):=by
 obtain ⟨b5,hb5,i1,i2,i3⟩:=when_l1 t h1 h2;have eD:w64 (b5.2+iQuo b5.1 86400)=t / 86400:=by
  rw[jVa i1 (by omega) (by omega),zDa (by omega) (by omega)];omega
 have eS:iRem b5.1 86400=t % 86400:=by rw[Vxa i1];omega
 obtain ⟨b9,hb9,j1,j2,j3,j4,j5⟩:=when_l2 (t / 86400) (by omega) (by omega);obtain ⟨⟨g,Y⟩,hb16,k1,k2,k3,k4,k5⟩:=when_l3 (719162+t / 86400) (b9.1,b9.2) j1 j3 j4 j5 j2;dsimp only at k1 k2 k3 k4 k5;unfold jsa;rw[yBa,decide_eq_true h1,decide_eq_true h2];simp only[jAb,jCd,jBg,cond_false];rw[hb5];simp only[jAb];rw[eD,hb9];simp only[jAb];rw[hb16];simp only[jAb,yBa];have hys:=jya Y;by_cases hY:1<=Y/\Y<=4000
 .right;obtain ⟨hY1,hY2⟩:=hY;have hb0:=jAa hY1 (by omega);have hb1:=(qRb 1 (Y - 1).toNat).1;rw[QTa,show (1:Int)+((Y - 1).toNat:Int)=Y by omega]at hb1;obtain ⟨M,hM,hd1,hd2⟩:=VWa Y g k1 12 (by rw[qcb];exact k2);refine ⟨Y,M,g,hY1,hY2,by omega,by omega,⟨hd1,hd2⟩,?_⟩;have hn:=W7a Y M;have hyl:=Kja Y;have hds:domI Y (M+1)=domI Y M+dimI Y ((M+1:Nat):Int):=rfl;have hdp:=jUa Y ((M+1:Nat):Int);rw[decide_eq_true hY1,decide_eq_true hY2];simp only[jCd,jBg,cond_false];have q4:=yeb (g,Y) M (by omega) ⟨hd1,hd2⟩ (by dsimp only;omega) M 0 (by omega);dsimp only[domI]at q4;rw[show (((0+1:Nat):Int),g - 0)=((1:Int),g) by simp]at q4;have q5:=yfb (g,Y) hY1 hY2 (Y - 1).toNat 1 (by omega) (by dsimp only;omega);rw[QTa]at q5;rw[show ((0:Int) - 364 * (1 - 1)+1,(1:Int))=(1,1) by simp]at q5;dsimp only at q5;rw[q4];simp only[jAb];rw[q5];simp only[jAb];have hr1:=jCn t (show (86400:Int)≠0 by omega);have hr2:=jCg t (show (0:Int) < 86400 by omega);have hw7:=jCn (t / 86400+4) (show (7:Int)≠0 by omega);have hw8:=jCg (t / 86400+4) (show (0:Int) < 7 by omega);have e35:iRem (w64 (befI Y - 364 * (Y - 1)+1+g)) 7=((((t / 86400+4) % 7).toNat:Nat):Int):=by
   rw[zDa (by omega) (by omega),Vxa (by omega)];omega
  have hwc:cut (([83,117,110,77,111,110,84,117,101,87,101,100,84,104,117,70,114,105,83,97,116]:Str)) ((w64 (3 * (iRem (w64 (befI Y - 364 * (Y - 1)+1+g)) 7)))) ((w64 ((w64 (3 * (iRem (w64 (befI Y - 364 * (Y - 1)+1+g)) 7)))+3)))=some (wdT ((t / 86400+4) % 7).toNat):=by
   rw[e35];exact wd_cut ⟨((t / 86400+4) % 7).toNat,by omega⟩
  have hmc:cut (([74,97,110,70,101,98,77,97,114,65,112,114,77,97,121,74,117,110,74,117,108,65,117,103,83,101,112,79,99,116,78,111,118,68,101,99]:Str)) ((w64 ((w64 (3 * ((M+1:Nat):Int))) - 3))) ((w64 (3 * ((M+1:Nat):Int))))=some (moT M):=mo_cut ⟨M,by omega⟩;have p1:=fill2 (u:=(t % 86400 / 3600).toNat) (by omega);have p2:=fill2 (u:=(t % 86400 / 60 % 60).toNat) (by omega);have p3:=fill2 (u:=(t % 86400 % 60).toNat) (by omega);have p4:=fill2 (u:=(g - domI Y M+1).toNat) (by omega);have p5:=fill4 (u:=Y.toNat) (by omega);have l1:=qwa (u:=(t % 86400 / 3600).toNat) (k:=2) (by omega) (by omega);have l2:=qwa (u:=(t % 86400 / 60 % 60).toNat) (k:=2) (by omega) (by omega);have l3:=qwa (u:=(t % 86400 % 60).toNat) (k:=2) (by omega) (by omega);have l4:=qwa (u:=(g - domI Y M+1).toNat) (k:=2) (by omega) (by omega);have l5:=qwa (u:=Y.toNat) (k:=4) (by omega) (by omega);have lw:=qfb ⟨((t / 86400+4) % 7).toNat,by omega⟩;have lm:=qgb ⟨M,by omega⟩;dsimp only at lw lm;rw[show (((t % 86400 / 3600).toNat:Nat):Int)=iQuo (iRem b5.1 86400) 3600 by rw[eS,jVa hr1 (by omega) (by omega)];omega]at p1;rw[show (((t % 86400 / 60 % 60).toNat:Nat):Int)=iRem (iQuo (iRem b5.1 86400) 60) 60 by rw[eS,jVa hr1 (by omega) (by omega),Vxa (by omega)];omega]at p2;rw[show (((t % 86400 % 60).toNat:Nat):Int)=iRem (iRem b5.1 86400) 60 by rw[eS,Vxa (by omega)];omega]at p3;rw[show (((g - domI Y M+1).toNat:Nat):Int)=w64 (g - domI Y M+1) by rw[zDa (by omega) (by omega)];omega]at p4;rw[show ((Y.toNat:Nat):Int)=Y by omega]at p5;exact yhb hwc p4 hmc p5 p1 p2 p3 lw l4 lm l5 l1 l2 l3
 left;have e:(decide (1<=Y) && decide (Y<=4000))=false:=by
  rw[Bool.and_eq_false_iff];by_cases h:1<=Y
  .right;rw[decide_eq_false];omega
  left;rw[decide_eq_false h]
 rw[e];refine ⟨rfl,?_⟩;by_cases hY1:1<=Y
 .right;have:=ZEa (show 4001<=Y by omega);rw[zYb]at this;omega
 left;have:=ZEa (show Y+1<=1 by omega);rw[QTa]at this;omega
theorem yjb(t:Int):(jsa t=some ([],false)/\∃d f,kCa t 0=some (d,f)/\f.Code=3)∨∃w D m y h mi s,w < 7/\1<=D/\D<=31/\m < 12/\1<=y/\y<=4000/\h < 24/\mi < 60/\s < 60/\jsa t=some (Vya w D m y h mi s,true)/\∃d,kCa t 0=some (d,⟨0,0⟩)/\vAa d=some (Vya w D m y h mi s,⟨0,0⟩):=by
 by_cases hr: -68719476736<=t/\t<=68719476736
 .obtain ⟨h1,h2⟩:=hr;rcases yib t h1 h2 with ⟨h3,h4⟩ | ⟨Y,M,g,hY1,hY2,hM,hN,hd,hw⟩
  .left;obtain ⟨d,hd⟩:=ygb t h1 h2 h4;exact ⟨h3,d,_,hd,rfl⟩
  right;have hr1:=jCn t (show (86400:Int)≠0 by omega);have hr2:=jCg t (show (0:Int) < 86400 by omega);have hw7:=jCn (t / 86400+4) (show (7:Int)≠0 by omega);have hw8:=jCg (t / 86400+4) (show (0:Int) < 7 by omega);have hds:domI Y (M+1)=domI Y M+dimI Y ((M+1:Nat):Int):=rfl;have hdp:=jUa Y ((M+1:Nat):Int);exact ⟨_,_,_,_,_,_,_,by omega,by omega,by omega,by omega,by omega,by omega,by omega,by omega,by omega,hw,_,civil_in t h1 h2 Y M g hY1 hY2 hM hN hd,print_in t Y M g hY1 hY2 hM hN hd⟩
 left;have e:(decide ((-68719476736:Int)<=t) && decide (t<=68719476736))=false:=by
  rw[Bool.and_eq_false_iff];by_cases h:(-68719476736:Int)<=t
  .right;rw[decide_eq_false];omega
  left;rw[decide_eq_false h]
 refine ⟨?_,⟨0,0,0,0,0,0,0⟩,⟨3, -2⟩,?_,rfl⟩
 .unfold jsa;rw[yBa,e];rfl
 unfold kCa;rw[jWa,e];rfl
theorem QUa(m:zda)(hf:m.Fields.length<=1048576):vWa m m=some true:=by
 unfold vWa;have e1:((m.Fields.length:Int) !=(m.Fields.length:Int))=false:=by simp
 have e2:(m.Body !=m.Body)=false:=by simp
 rw[e1,e2];simp only[cond_false,jAb];rw[kja m.Fields (fun _ _=>none) (.inl ()) .inr]
 .have:zFa (fun _ _=>(none:Option Bool)) 0 m.Fields=none:=by rw[jTa];intro i x _;rfl
  simp only[jAb];rw[this];rfl
 .unfold vwa;rw[z7a];rfl
 intro i f hx;have hi:=kta hx;unfold vwa;rw[kOa hx,z8a hx];simp only[cond_true,jAb,sc i (by omega)];simp[jFa]
noncomputable def JYa(t:Int):Option Str:=match jsa t with | some (x,true)=>some x | _=>none
theorem K7a(t:Int):(JYa t=none/\jsa t=some ([],false)/\∃d f,kCa t 0=some (d,f)/\f.Code=3)∨
 ∃w D m y h mi s,w < 7/\1<=D/\D<=31/\m < 12/\1<=y/\y<=4000/\h < 24/\mi < 60/\s < 60/\JYa t=some (Vya w D m y h mi s)/\jsa t=some (Vya w D m y h mi s,true)/\∃d,kCa t 0=some (d,⟨0,0⟩)/\vAa d=some (Vya w D m y h mi s,⟨0,0⟩):=by
 rcases yjb t with ⟨h1,h2⟩ | ⟨w,D,m,y,h,mi,s,b1,b2,b3,b4,b5,b6,b7,b8,b9,h1,h2⟩
 .exact .inl ⟨by unfold JYa;rw[h1],h1,h2⟩
 exact .inr ⟨w,D,m,y,h,mi,s,b1,b2,b3,b4,b5,b6,b7,b8,b9,by unfold JYa;rw[h1],h1,h2⟩
theorem ykb{w D m y h mi s:Nat}(b1:w < 7)(b3:D<=31)(b4:m < 12)(b6:y<=4000)(b7:h < 24)(b8:mi < 60)(b9:s < 60):(Vya w D m y h mi s).length=31:=by
 have l1:=qwa (u:=h) (k:=2) (by omega) (by omega);have l2:=qwa (u:=mi) (k:=2) (by omega) (by omega);have l3:=qwa (u:=s) (k:=2) (by omega) (by omega);have l4:=qwa (u:=D) (k:=2) (by omega) (by omega);have l5:=qwa (u:=y) (k:=4) (by omega) (by omega);have lw:=qfb ⟨w,b1⟩;have lm:=qgb ⟨m,b4⟩;dsimp only at lw lm;unfold Vya;simp[l1,l2,l3,l4,l5,lw,lm]
theorem ylb{t:Int}{x:Str}(h:JYa t=some x):x.length=31:=by
 rcases K7a t with ⟨h1,_⟩ | ⟨w,D,m,y,hh,mi,s,b1,b2,b3,b4,b5,b6,b7,b8,b9,h1,_⟩
 .rw[h]at h1;cases h1
 rw[h]at h1;cases h1;exact ykb b1 b3 b4 b6 b7 b8 b9
theorem ymb(l:List zda)(h:YXa l)(hl:l.length<=20)(hm:∀m∈l,(msgF m).Code=0):iter (qKa l) (0,[])=some ((l.map zZa).map w1a):=by
 have h:=(yAa l (fun i (s:List zka)=>(i,s)) (fun s m=>s++ [w1a (zZa m)]) (fun s=>s) (fun i s=>s.length<=i) (body:=qKa l) (fun s _=>by unfold qKa;rw[z7a];rfl) (fun i m s hx hs=>by
  have hi:=kta hx;have hmem:=jAg hx;obtain ⟨e1,_,_,_⟩:=Vva (hm m hmem) (h.2 m hmem);refine ⟨?_,by simp;omega⟩;unfold qKa;dsimp only;rw[kOa hx,z8a hx];simp only[cond_true,jAb,e1];rw[vKa (by simp;omega),sc i (by omega)];rfl) [] (by simp)).1
 rw[h];have key:∀(l:List zda) (acc:List zka),l.foldl (fun s m=>s++ [w1a (zZa m)]) acc=acc++(l.map zZa).map w1a:=by
  intro l;induction l with
  | nil=>intro acc;simp
  | cons x l ih=>intro acc;rw[jCt,ih];simp
 rw[key];rfl
theorem ynb(l:List zda)(h:YXa l)(hl:l.length<=20)(hm:∀m∈l,(msgF m).Code=0):iter (zRa l) (0,[])=some ((l.map zZa).map w1a):=by
 have h:=(yAa l (fun i (s:List zka)=>(i,s)) (fun s m=>s++ [w1a (zZa m)]) (fun s=>s) (fun i s=>s.length<=i) (body:=zRa l) (fun s _=>by unfold zRa;rw[z7a];rfl) (fun i m s hx hs=>by
  have hi:=kta hx;have hmem:=jAg hx;obtain ⟨_,e1,_,_⟩:=Vva (hm m hmem) (h.2 m hmem);refine ⟨?_,by simp;omega⟩;unfold zRa;dsimp only;rw[kOa hx,z8a hx];simp only[cond_true,jAb,e1];rw[vKa (by simp;omega),sc i (by omega)];rfl) [] (by simp)).1
 rw[h];have key:∀(l:List zda) (acc:List zka),l.foldl (fun s m=>s++ [w1a (zZa m)]) acc=acc++(l.map zZa).map w1a:=by
  intro l;induction l with
  | nil=>intro acc;simp
  | cons x l ih=>intro acc;rw[jCt,ih];simp
 rw[key];rfl
inductive Made (a:Str) (l:List zda) (t:Int):zda × zma->Prop
 | name (h:V5a a=false):Made a l t (⟨[],[]⟩,⟨10, -10⟩)
 | chk (h:V5a a=true) (h2:(chkF l).Code≠0):Made a l t (⟨[],[]⟩,chkF l)
 | time (h:V5a a=true) (h2:(chkF l).Code=0) (h3:JYa t=none):Made a l t (⟨[],[]⟩,⟨3, -2⟩)
 | join (h:V5a a=true) (h2:(chkF l).Code=0) (w:Str) (h3:JYa t=some w) (n:Nat) (hn:n<=1000000) (hu:Yra ((l.map zZa).map itT) n=false) (hs:VTa (Ysa a w (Lib.decDigits l.length) (l.map zZa) n))
  (hj:kHa (digP a w (Lib.decDigits l.length) (l.map zZa))=some (zXb a w (Lib.decDigits l.length) (l.map zZa) n)):
  Made a l t (if (zXb a w (Lib.decDigits l.length) (l.map zZa) n).2.Code !=0 then (⟨[],[]⟩,⟨(zXb a w (Lib.decDigits l.length) (l.map zZa) n).2.Code, -21⟩) else ((zXb a w (Lib.decDigits l.length) (l.map zZa) n).1,⟨0,0⟩))
theorem Yta(a:Str)(l:List zda)(t:Int)(ha:a.length<=1048576)(h:YXa l):∃r,wqa a l t=some r/\Made a l t r:=by
 unfold wqa;rw[K5a a (by omega)];simp only[jAb];cases hA:V5a a with
 | false=>exact ⟨_,rfl,.name hA⟩
 | true=>
  simp only[jBg,cond_false];rw[WYa l h];simp only[jAb,zPa,zYa,kga];by_cases hc:(chkF l).Code=0
  .obtain ⟨e,n1,n2,hm⟩:=k6b hc;rw[show ((chkF l).Code !=0)=false by simpa using hc];simp only[cond_false];rcases K7a t with ⟨h1,_,d,f,h3,h4⟩ | ⟨w,D,m,y,hh,mi,s,b1,b2,b3,b4,b5,b6,b7,b8,b9,h1,_,d,h3,h4⟩
   .rw[h3];simp only[jAb,h4];exact ⟨_,rfl,.time hA hc h1⟩
   rw[h3];simp only[jAb,bne_self_eq_false,cond_false];rw[h4];simp only[jAb];rw[qPb l.length (by omega)];simp only[jAb];rw[ymb l h n2 hm];simp only[jAb];have hw:=ylb h1;have hd:=W4a (n:=l.length) (by omega);obtain ⟨n,hn,hu,hs,hj⟩:=JWa a (Vya w D m y hh mi s) (Lib.decDigits l.length) (l.map zZa) (by simpa using n1) (by simpa using n2) (fun b hb=>by
    obtain ⟨m,hm2,rfl⟩:=jBm.1 hb;exact (Vva (hm m hm2) (h.2 m hm2)).2.2.1) ha (by omega) (by omega)
   rw[show kHa ⟨[⟨[70,114,111,109],a⟩,⟨[68,97,116,101],Vya w D m y hh mi s⟩,⟨[88,45,68,105,103,101,115,116],Lib.decDigits l.length⟩,⟨[67,111,110,116,101,110,116,45,84,121,112,101],[109,117,108,116,105,112,97,114,116,47,100,105,103,101,115,116]⟩],[],(l.map zZa).map w1a⟩=_ from hj];refine ⟨_,?_,.join hA hc _ h1 n hn hu hs hj⟩;simp only[jAb];cases (zXb a (Vya w D m y hh mi s) (Lib.decDigits l.length) (l.map zZa) n).2.Code !=0 <;> rfl
  rw[show ((chkF l).Code !=0)=true by simpa using hc];exact ⟨_,rfl,.chk hA hc⟩
theorem y8a(a0:Str)(a1:List zda)(a2:Int)(o0:Zba a0)(o1:okL zda.ok a1)(o2:ok64 a2)(hk:a0.length+1+bkL zda.bk a1+1<=1048576):k9a a0 a1 a2=some true:=by
 have hs:=w7b (l:=a1) (by omega);obtain ⟨r,hr,hM⟩:=Yta a0 a1 a2 (by omega) hs;have hW:∃x,jsa a2=some (x,(JYa a2).isSome)/\∀w,JYa a2=some w->x=w:=by
  rcases K7a a2 with ⟨h1,h2,_⟩ | ⟨w,D,m,y,hh,mi,s,b1,b2,b3,b4,b5,b6,b7,b8,b9,h1,h2,_⟩
  .exact ⟨[],by rw[h1,h2];rfl,fun w hw=>by rw[h1]at hw;cases hw⟩
  exact ⟨_,by rw[h1,h2];rfl,fun w hw=>by rw[h1]at hw;cases hw;rfl⟩
 obtain ⟨x,hx,hxw⟩:=hW;unfold k9a;rw[hr,Yma a0 (by omega),K6a _ hs,hx,WQa];simp only[jAb,Vra];cases hM with
 | name h=>rw[h];rfl
 | chk h h2=>
  rw[h];simp only[jBg,cond_false,jAb];rw[show ((chkF a1).Code==0)=false by simpa using h2];simp only[cond_false,jAb,jBg,jAr,if_false];rw[show ((chkF a1).Code !=0)=true by simpa using h2];simp[jFa]
 | time h h2 h3=>
  rw[h,(k6b h2).1,h3];rfl
 | join h h2 w h3 n hn hu hsm hj=>
  obtain ⟨e,n1,n2,hm⟩:=k6b h2;obtain rfl:=hxw w h3;rw[h,e,h3];simp only[jBg,cond_false,jAb,beq_self_eq_true,cond_true,Option.isSome_some,bne_self_eq_false];rw[WZa a1.length (by omega)];simp only[jAb];rw[ynb a1 hs n2 hm];simp only[jAb];rw[show kHa ⟨[⟨[70,114,111,109],a0⟩,⟨[68,97,116,101],x⟩,⟨[88,45,68,105,103,101,115,116],Lib.decDigits a1.length⟩,⟨[67,111,110,116,101,110,116,45,84,121,112,101],[109,117,108,116,105,112,97,114,116,47,100,105,103,101,115,116]⟩],[],(a1.map zZa).map w1a⟩=_ from hj];simp only[jAb];unfold zXb;by_cases c1:(valD a0 x (Lib.decDigits a1.length) (a1.map zZa)).Code=0
  .rw[if_neg (by simpa using c1)];by_cases c2:(msgF (Ysa a0 x (Lib.decDigits a1.length) (a1.map zZa) n)).Code=0
   .rw[if_neg (by simpa using c2)];simp only[bne_self_eq_false,cond_false,jAr,if_false,beq_self_eq_true,cond_true];rw[QUa _ hsm.1.1];rfl
   rw[if_pos (by simpa using c2)];have c3:((msgF (Ysa a0 x (Lib.decDigits a1.length) (a1.map zZa) n)).Code !=0)=true:=by simpa using c2
   simp[c3,jFa]
  rw[if_pos (by simpa using c1)];have c3:((valD a0 x (Lib.decDigits a1.length) (a1.map zZa)).Code !=0)=true:=by simpa using c1
  simp[c3,jFa]
section
section
variable {E:Env} {T:Tab} {fr:Fr} {σ:Sto} {k:KS} {ops:Array Oper} {l:List Oper} {V R:Type} {r:R} {A B:Option R} {t:Bool} {g:GS}
def isR:Exit->Bool
 | .normal=>true
 | .ret=>true
 | _=>false
theorem yob{e:Exit}(h:isR e=true):isN e=true∨e=.ret:=by cases e <;> simp_all [isR,isN]
theorem jx(n:Nat){J:Type}{a j:J}(hr:some a=some j){frs:J->Fr}{stos:J->Sto}(hT:zEa E.P T:=by exact tk)(h:GS.run T E.N n g=some (.at .normal fr σ (.jo frs stos (fun z=>j=z) k)):=by exact rfl)(hf:(frs a).map fr.sel=frs a:=by exact rfl)(hs:(stos a).map σ.sel=(stos a).map (fun p=>some p.2):=by exact rfl):g.holds E:=
 rn hT n h (by cases hr;exact jn _ rfl hf hs)
theorem kx(n:Nat){a r:R}(hr:some a=some r){fn:Func}{rv:AV}{cs:List AV}{e:Exit}{hm:Mono (Kret E.P fn rv)}(hT:zEa E.P T:=by exact tk)(h:GS.run T E.N n g=some (.at e fr σ (.base (Kret E.P fn rv) hm)):=by exact rfl)(he:isR e=true:=by exact rfl)(hc:Qva T fr σ fn.results.toList=some cs:=by exact rfl)(hv:some a=some r->Wwa cs=rv:=by (rintro ⟨⟩;exact rfl)):g.holds E:=
 rn hT n h (kr hT (yob he) hc (hv hr))
theorem cx(n:Nat){A B:Type}{s:A}{x:Step A B}(hr:some (.cont s)=some x){frs:A->Fr}{stos:A->Sto}{O:B->Post}{hm:Mono (jaa frs stos O x)}(hT:zEa E.P T:=by exact tk)(h:GS.run T E.N n g=some (.at .normal fr σ (.base (jaa frs stos O x) hm)):=by exact rfl)(hf:(frs s).map fr.sel=frs s:=by exact rfl)(hs:(stos s).map σ.sel=(stos s).map (fun p=>some p.2):=by exact rfl):g.holds E:=
 rn hT n h (by cases hr;exact ⟨rfl,frw hf,stw hs⟩)
theorem ox(n:Nat){A B:Type}{b:B}{x:Step A B}(hr:some (.out b)=some x){e:Exit}{frs:A->Fr}{stos:A->Sto}{e0:B->Exit}{fr0:B->Fr}{σ0:B->Sto}{hm:Mono (jaa frs stos (fun b=>At (e0 b) (fr0 b) (σ0 b)) x)}(hT:zEa E.P T:=by exact tk)(h:GS.run T E.N n g=some (.at e fr σ (.base (jaa frs stos (fun b=>At (e0 b) (fr0 b) (σ0 b)) x) hm)):=by exact rfl)(he:e=e0 b:=by exact rfl)(hn:isN e=false:=by exact rfl)(hf:(fr0 b).map fr.sel=fr0 b:=by exact rfl)(hs:(σ0 b).map σ.sel=(σ0 b).map (fun p=>some p.2):=by exact rfl):g.holds E:=
 rn hT n h (by cases hr;exact ato he hn hf hs)
theorem sxx(n:Nat){a r:R}(hr:some a=some r){fn:Func}{rv w:AV}{σ1:Sto}{Tm:Array Value}{H:Nat}{cs:List AV}{e:Exit}{hm:Mono (zrb E.P fn rv w H Tm σ1)}(hT:zEa E.P T:=by exact tk)(h:GS.run T E.N n g=some (.at e fr σ (.base (zrb E.P fn rv w H Tm σ1) hm)):=by exact rfl)(he:isR e=true:=by exact rfl)(hc:Qva T fr σ fn.results.toList=some cs:=by exact rfl)(hv:some a=some r->Wwa cs=rv:=by (rintro ⟨⟩;exact rfl))(hs:some a=some r->((H,.hold w (Tm.getD 0 undef))::σ1).map σ.sel=((H,.hold w (Tm.getD 0 undef))::σ1).map (fun p=>some p.2):=by (rintro ⟨⟩;exact rfl)):g.holds E:=
 rn hT n h (krS hT (yob he) hc (hv hr) (stw (hs hr)))
theorem ax(n d:Nat){x y:Code}(hr:(bif t then A else B)=some r)(hA:A=some r->(GS.code x ((d,.pv (.b (.bool true)))::fr) σ k).holds E)(hB:B=some r->(GS.code y ((d,.pv (.b (.bool false)))::fr) σ k).holds E)(hT:zEa E.P T:=by exact tk)(h:GS.run T E.N n g=some (.code (.cond (.tmp d) x y) fr σ k):=by exact rfl)(hd:fr.get d=.pv (.b (.bool t)):=by exact rfl):g.holds E:=
 rn hT n h (ac d hr hd (fun _=>hA) (fun _=>hB))
theorem bx(n d:Nat)(hr:(bif t then A else B)=some r)(hA:t=true->A=some r->(GS.ops ops l ((d,.pv (.b (.bool true)))::fr) σ k).holds E)(hB:t=false->B=some r->(GS.ops ops l ((d,.pv (.b (.bool false)))::fr) σ k).holds E)(hT:zEa E.P T:=by exact tk)(h:GS.run T E.N n g=some (.ops ops l fr σ k):=by exact rfl)(hd:fr.get d=.pv (.b (.bool t)):=by exact rfl):g.holds E:=
 rn hT n h (bs d hr hd hA hB)
theorem clx(n:Nat){X:Option V}{F:V->Option R}(hr:X.bind F=some r){f:FuncId}{d:Nat}{xs:List Operand}{ats:Array TypeId}{args:List AV}{rv:V->AV}{ty:TypeId}{pos:String}{af:Array Edge}(hc:∀v,X=some v->Run E.P f args (rv v))(hq:∀v,X=some v->F v=some r->(GS.ops ops l ((d,rv v)::fr) σ k).holds E)(hT:zEa E.P T:=by exact tk)(h:GS.run T E.N n g=some (.ops ops (⟨some d,.call ⟨.value (.func f),xs.toArray,ats⟩,ty,pos,af,none⟩::l) fr σ k):=by exact rfl)(hN:Nat.ble (d+1) E.N=true:=by exact rfl)(ha:xs.map (fun x=>(fr.ev x).weak)=args:=by exact rfl):g.holds E:=by
 obtain ⟨v,h1,h2⟩:=zaa hr;exact rn hT n h (cl (hc v h1) hN ha (hq v h1 h2))
theorem csx(n:Nat){X:Option V}{F:V->Option R}(hr:X.bind F=some r){f:FuncId}{d O:Nat}{xs:List Operand}{ats:Array TypeId}{args:List AV}{rv:V->AV}{σ0:Sto}{σ1:V->Sto}{rows:List Nat}{ty:TypeId}{pos:String}{af:Array Edge}(hc:∀v,X=some v->RunS E.P f args σ0 (rv v) (σ1 v) O rows)(hq:∀v,X=some v->F v=some r->(GS.ops ops l ((d,rv v)::fr.clrs rows) (σ1 v++(σ.dels (O::rows)).clrs rows) k).holds E)(hT:zEa E.P T:=by exact tk)(h:GS.run T E.N n g=some (.ops ops (⟨some d,.call ⟨.value (.func f),xs.toArray,ats⟩,ty,pos,af,none⟩::l) fr σ k):=by exact rfl)(hN:Nat.ble (d+1) E.N=true:=by exact rfl)(ha:xs.map (fun x=>(fr.ev x).weak)=args:=by exact rfl)(hs:σ0.map σ.sel=σ0.map (fun p=>some p.2):=by exact rfl):g.holds E:=by
 obtain ⟨v,h1,h2⟩:=zaa hr;exact rn hT n h (wo (Vja (hc v h1) hN ha (stw hs)) rfl (hq v h1 h2))
theorem rfx{P:Program}{f:FuncId}{fn:Func}{c:Code}{args:List AV}{r:AV}(hf:P.funcs[f]? =some fn)
 (h:∀g0 (hg:Gl g0),(GS.code c (kqa 0 args) [] (.base (Kret P fn r) zib)).holds ⟨P,none,g0,fn.ntmps,false,hg,fun _=>False,fun _ _ h=>h⟩)
 (hb : fn.body = some c := by exact rfl) (hn : (fn.name == "runtime.NumGoroutine") = false := by kernel_rfl) (hN : Nat.ble args.length fn.ntmps = true := by exact rfl) (hr : ∀ k, r.has k = false := by exact fun _ => rfl) : Run P f args r := rf ⟨hf, hb, hn⟩ hN hr h
end
end
section
def Fr.px(fr:Fr):List Nat->Option Fr
 | []=>some []
 | k::ks=>match (fr.get k).force with
  | some a=>(match Fr.px fr ks with | some r=>some ((k,a)::r) | none=>none)
  | none=>none
theorem Fr.px_ok{fr:Fr}:∀{ks:List Nat} {r:Fr},fr.px ks=some r->FrLe fr r/\r.map (fun p=>fr.get p.1)=r.map (·.2)
 | [],r,h=>by cases h;exact ⟨Qia,rfl⟩
 | k::ks,r,h=>by
  unfold Fr.px at h;split at h
  .rename_i a ha;split at h
   .rename_i r1 h1;cases h;obtain ⟨q1,q2⟩:=Fr.px_ok h1;refine ⟨Qja (AV.force_eq ha) q1,?_⟩;simp only[List.map_cons,q2,AV.force_eq ha]
   cases h
  cases h
def Sto.px(σ:Sto):List Nat->Option Sto
 | []=>some []
 | k::ks=>match σ.get k with
  | some a=>(match Sto.px σ ks with | some r=>some ((k,a)::r) | none=>none)
  | none=>none
section
variable {E:Env} {T:Tab} {fr fr' :Fr} {σ σ' :Sto} {k:KS} {ops:Array Oper} {l:List Oper} {R:Type} {r:R} {g:GS}
theorem jq(n:Nat){J:Type}{X:Option J}{f:J->Option R}(hr:X.bind f=some r)(ks os:List Nat)(F:J->Fr)(S:J->Sto){x y:Code}(hx:∀j,X=some j->(GS.code x fr σ (.jo (fun j=>F j++fr') (fun j=>S j++σ') (fun z=>j=z) k)).holds E)(hy:∀j,f j=some r->(GS.code y (F j++fr') (S j++σ') k).holds E)
 (hT:zEa E.P T:=by exact tk) (h:GS.run T E.N n g=some (.code (.seq x y) fr σ k):=by exact rfl) (hf:fr.px ks=some fr' :=by exact rfl) (hs:σ.px os=some σ' :=by exact rfl):g.holds E:=
 rn hT n h (jb hr (fun j=>F j++fr') (fun j=>S j++σ') hx hy)
theorem jkq(n:Nat){J:Type}(ks os:List Nat)(F:J->Fr)(S:J->Sto)(M:J->Prop){x y:Code}(hx:(GS.code x fr σ (.jo (fun j=>F j++fr') (fun j=>S j++σ') M k)).holds E)(hy:∀j,M j->(GS.code y (F j++fr') (S j++σ') k).holds E)
 (hT:zEa E.P T:=by exact tk) (h:GS.run T E.N n g=some (.code (.seq x y) fr σ k):=by exact rfl) (hf:fr.px ks=some fr' :=by exact rfl) (hs:σ.px os=some σ' :=by exact rfl):g.holds E:=
 rn hT n h (jk (fun j=>F j++fr') (fun j=>S j++σ') M hx hy)
theorem ctq(n:Nat){J:Type}{X:Option J}{f:J->Option R}{o:Oper}(hr:X.bind f=some r)(ks os:List Nat)(F:J->Fr)(S:J->Sto)
 (hx:∀j,X=some j->(∀fr1 σ1,(F j++fr').map fr1.sel=F j++fr' ->(S j++σ').map σ1.sel=(S j++σ').map (fun p=>some p.2)->AWPL E ops l fr1 σ1 (k.post E))->(GS.ops ops (o::l) fr σ k).holds E) (hy:∀j,f j=some r->(GS.ops ops l (F j++fr') (S j++σ') k).holds E)
 (hT:zEa E.P T:=by exact tk) (h:GS.run T E.N n g=some (.ops ops (o::l) fr σ k):=by exact rfl) (hf:fr.px ks=some fr' :=by exact rfl) (hs:σ.px os=some σ' :=by exact rfl):g.holds E:=
 rn hT n h (ct hr (fun j=>F j++fr') (fun j=>S j++σ') hx hy)
theorem aq1(n:Nat){A B:Type}{c:Code}{body:A->Option (Step A B)}{s:A}{f:B->Option R}(hr:(iter body s).bind f=some r)(ks os:List Nat)(F:A->Fr)(S:A->Sto)(e0:Exit)(ks1 os1:List Nat)(F1:B->Fr)(S1:B->Sto){fr1:Fr}{σ1:Sto}
 (h:∀s x,body s=some x->(GS.code c (F s++fr') (S s++σ') (.base (jaa (fun s=>F s++fr') (fun s=>S s++σ') (fun b=>At ((fun _=>e0) b) (F1 b++fr1) (S1 b++σ1)) x) jfa)).holds E)
 (hK:∀b,f b=some r->(GS.at e0 (F1 b++fr1) (S1 b++σ1) k).holds E)
 (hT:zEa E.P T:=by exact tk) (hg:GS.run T E.N n g=some (.code (.loop c) fr σ k):=by exact rfl) (h1:fr.px ks=some fr' :=by exact rfl) (h2:σ.px os=some σ' :=by exact rfl) (h3:fr.px ks1=some fr1:=by exact rfl) (h4:σ.px os1=some σ1:=by exact rfl) (hf:(F s++fr').map fr.sel=F s++fr' :=by exact rfl) (hs:(S s++σ').map σ.sel=(S s++σ').map (fun p=>some p.2):=by exact rfl):g.holds E:=
 rn hT n hg (al1 hr (fun s=>F s++fr') (fun s=>S s++σ') e0 (fun b=>F1 b++fr1) (fun b=>S1 b++σ1) hf hs h hK)
theorem aq2(n:Nat){A B C:Type}{c:Code}{body:A->Option (Step A (B ⊕ C))}{s:A}{f:B->Option R}{f2:C->Option R}(hr:(iter body s).bind (Sum.elim f f2)=some r)(ks os:List Nat)(F:A->Fr)(S:A->Sto)(e1:Exit)(ks1 os1:List Nat)(F1:B->Fr)(S1:B->Sto)(e2:Exit)(ks2 os2:List Nat)(F2:C->Fr)(S2:C->Sto){fr1 fr2:Fr}{σ1 σ2:Sto}
 (h:∀s x,body s=some x->(GS.code c (F s++fr') (S s++σ') (.base (jaa (fun s=>F s++fr') (fun s=>S s++σ') (fun b=>At (Sum.elim (fun _=>e1) (fun _=>e2) b) (Sum.elim (fun b=>F1 b++fr1) (fun b=>F2 b++fr2) b) (Sum.elim (fun b=>S1 b++σ1) (fun b=>S2 b++σ2) b)) x) jfa)).holds E)
 (hK1:∀b,f b=some r->(GS.at e1 (F1 b++fr1) (S1 b++σ1) k).holds E) (hK2:∀b,f2 b=some r->(GS.at e2 (F2 b++fr2) (S2 b++σ2) k).holds E)
 (hT:zEa E.P T:=by exact tk) (hg:GS.run T E.N n g=some (.code (.loop c) fr σ k):=by exact rfl) (h1:fr.px ks=some fr' :=by exact rfl) (h2:σ.px os=some σ' :=by exact rfl) (h3:fr.px ks1=some fr1:=by exact rfl) (h4:σ.px os1=some σ1:=by exact rfl) (h5:fr.px ks2=some fr2:=by exact rfl) (h6:σ.px os2=some σ2:=by exact rfl) (hf:(F s++fr').map fr.sel=F s++fr' :=by exact rfl) (hs:(S s++σ').map σ.sel=(S s++σ').map (fun p=>some p.2):=by exact rfl):g.holds E:=
 rn hT n hg (al2 hr (fun s=>F s++fr') (fun s=>S s++σ') e1 (fun b=>F1 b++fr1) (fun b=>S1 b++σ1) e2 (fun b=>F2 b++fr2) (fun b=>S2 b++σ2) hf hs h hK1 hK2)
def fjoin(a b c:List AV):Option (List AV):=wDa (a++b++c)
theorem iq(n:Nat){d f:Nat}{fn:Func}{c:Code}{fx:Operand}{xs:List Operand}{ats:Array TypeId}{first cap args:List AV}{ty:TypeId}{pos:String}{af:Array Edge}(base:Nat)(ks:List Nat){keep:Fr}(hok:FnOk E.P f fn c)
 (h:∀(T:Array Value) (ds:List Deferred),(GS.code c (kqa 0 args) ((base+99999,.sus E.g0.w.heap.size ds)::(holds base T keep++σ)) (.base (InlK E ops l d fn base (base+99999) T ds (k.post E)) qyb)).holds ⟨E.P,none,E.g0,fn.ntmps,true,E.gl,E.S,E.sg⟩)
 (hT:zEa E.P T:=by exact tk) (hg:GS.run T E.N n g=some (.ops ops (⟨some d,.call ⟨.value fx,xs.toArray,ats⟩,ty,pos,af,none⟩::l) fr σ k):=by exact rfl) (hf:fr.ev fx=.fn (.func f) first cap:=by exact rfl) (ha:fjoin first (xs.map fr.ev) cap=some args:=by exact rfl) (hN:(Nat.ble (d+1) E.N && Nat.ble args.length fn.ntmps)=true:=by exact rfl) (hk:fr.px ks=some keep:=by exact rfl):g.holds E:=
 rn hT n hg (il base (base+99999) keep hf hok hN (qba ha) (Fr.px_ok hk).2 h)
def Sto.held(base:Nat):Sto->Option Fr
 | []=>some []
 | (k,ob)::r=>match ob with
  | .hold v _=>(match (Nat.ble base k && Nat.ble (k+1) (base+99999)) with
   | true=>(match v.force,Sto.held base r with | some a,some f=>some ((k - base,a)::f) | _,_=>none)
   | false=>Sto.held base r)
  | _=>Sto.held base r
def Sto.less(base:Nat):Sto->Option Sto
 | []=>some []
 | (k,ob)::r=>match (Nat.ble base k && Nat.ble k (base+99999)) with
  | true=>Sto.less base r
  | false=>(match Sto.less base r with | some f=>some ((k,ob)::f) | none=>none)
theorem ieq{E' :Env}(n:Nat){fr2:Fr}{σ2:Sto}{cs:List AV}{d:Nat}{fn:Func}{base:Nat}{Tm:Array Value}{ds:List Deferred}{e:Exit}{hm:Mono (InlK E ops l d fn base (base+99999) Tm ds (k.post E))}
 (h:AWPL E ops l ((d,retI cs)::fr2) σ2 (k.post E)) (hT:zEa E'.P T:=by exact tk) (hg:GS.run T E'.N n g=some (.at e fr σ (.base (InlK E ops l d fn base (base+99999) Tm ds (k.post E)) hm)):=by exact rfl) (he:isR e=true:=by exact rfl) (hr:Qva T fr σ fn.results.toList=some cs:=by exact rfl) (h1:σ.held base=some fr2:=by exact rfl) (h2:σ.less base=some σ2:=by exact rfl)
 (hh:fr2.map (fun p=>σ.get (base+p.1))=fr2.map (fun p=>some (.hold p.2 (Tm.getD p.1 undef))):=by exact rfl) (hsu:σ.get (base+99999)=some (.sus E.g0.w.heap.size ds):=by exact rfl) (hle:σ2.map σ.sel=σ2.map (fun p=>some p.2):=by exact rfl) (hE:E.P=E'.P:=by exact rfl):g.holds E' :=
 rn hT n hg (ie (hE▸hT) cs fr2 σ2 (yob he) hr hh hsu hle h)
def purL(l:List Oper)(cs:List (Option AV))(fr:Fr):Fr:=purF l cs (allT l)++fr
theorem mdq(n:Nat){id:Nat}(tl:List (Nat × AV))(ks:List Nat){frJ:Fr}{ss:List Sto}{σJ:Sto}{cs:List (Option AV)}(ht:Told E l cs fr (σ::ss) tl)(h:(GS.at .normal frJ σJ k).holds E)
 (hmix:E.P.follows .mixedOrders=true) (hT:zEa E.P T:=by exact tk) (hg:GS.run T E.N n g=some (.code (.region id l.toArray true) fr σ k):=by exact rfl) (hz:zrun T E.N tl l 0 fr σ=some (cs,ss,σJ):=by exact rfl)
 (hk:(zchk E.N tl l cs,(List.range ((hvL l cs).length+1)).map (fun k=>(purK l cs tl k).map (JGa T l cs fr (stoK σ ss k))),(List.range (hvL l cs).length).map (stoD T E.N l cs fr σ ss),stoK σ ss (hvL l cs).length)=(true,(List.range ((hvL l cs).length+1)).map (fun k=>(purK l cs tl k).map (Kma cs)),(List.range (hvL l cs).length).map (fun k=>some (stoK σ ss (k+1))),σJ):=by kernel_rfl)
 (hf:(purL l cs fr).px ks=some frJ:=by exact rfl):g.holds E:=
 rn hT n hg (mc hT tl frJ hmix hz hk ht (Fr.px_ok hf).1 h)
end
end
section
variable {E:Env} {T:Tab} {fr FR:Fr} {σ:Sto} {k:KS} {l:List Oper} {cs:List AV} {kn:List (Nat × Bool)} {tl:List (Nat × AV)} {g:GS}
def kget:List (Nat × Bool)->Nat->Option Bool
 | [],_=>none
 | (d,b)::r,i=>bif Nat.beq d i then some b else kget r i
inductive z1b (FR:Fr):List (Nat × Bool)->Prop
 | nil:z1b FR []
 | cons {d:Nat} {b t:Bool} {r:List (Nat × Bool)} (hv:FR.get d=.pv (.b (.bool t))) (ht:t=b) (hr:z1b FR r):z1b FR ((d,b)::r)
theorem z1b.get(h:z1b FR kn){d:Nat}{b:Bool}(hk:kget kn d=some b):∃t,FR.get d=.pv (.b (.bool t))/\t=b:=by
 induction h with
 | nil=>cases hk
 | @cons e b' t r hv ht _ ih=>
  unfold kget at hk;cases hb:Nat.beq e d with
  | true=>rw[hb]at hk;cases hk;have:=jAi hb;subst this;exact ⟨t,hv,ht⟩
  | false=>rw[hb]at hk;exact ih hk
def gsee(l:List Oper)(kn:List (Nat × Bool))(FR:Fr)(o:Oper):Option Bool:=match o.guard with
 | none=>some true
 | some (j,want)=>(match (l[j]?).bind (·.dst) with
  | none=>none
  | some d=>(match kget kn d with
   | some b=>some (b==want)
   | none=>(match FR.get d with | .tup []=>some false | .pv (.b (.bool t))=>(match t,want with | true,w=>some w | false,w=>some (!w)) | _=>none)))
theorem qhb(hk:z1b FR kn){o:Oper}{b:Bool}(h:gsee l kn FR o=some b):(b=true->kxa l.toArray FR o)/\(b=false->jHa l.toArray FR o):=by
 unfold gsee at h;split at h
 .rename_i hg;cases h;exact ⟨fun _=>.plain hg,fun e=>by cases e⟩
 rename_i j want hg;split at h
 .cases h
 rename_i d hd;have hj:(l.toArray[j]?).bind (·.dst)=some d:=by simpa using hd
 split at h
 .rename_i b' hb;obtain ⟨t,hv,ht⟩:=hk.get hb;cases h;refine ⟨fun e=>.yes hg hj hv ?_,fun e=>.no hg hj hv ?_⟩
  .rw[ht];simpa using e
  rw[ht];cases b' <;> cases want <;> simp_all
 split at h
 .rename_i hv;cases h;exact ⟨fun e=>(by cases e),fun _=>.none hg hj hv⟩
 .rename_i t hv;split at h
  .cases h;exact ⟨fun e=>.yes hg hj hv e.symm,fun e=>.no hg hj hv (by rw[e];rfl)⟩
  cases h;exact ⟨fun e=>.yes hg hj hv (by cases want <;> simp_all),fun e=>.no hg hj hv (by cases want <;> simp_all)⟩
 cases h
def dval(T:Tab)(kn:List (Nat × Bool))(FR:Fr)(σ:Sto)(op:Op):Option AV:=match op with
 | .pick (.tmp d) x y=>(match kget kn d with | some true=>(FR.ev x).force | some false=>(FR.ev y).force | none=>qval T FR.ev σ op)
 | _=>qval T FR.ev σ op
theorem dval_ok(hT:zEa E.P T)(hk:z1b FR kn){o:Oper}{c:AV}(h:dval T kn FR σ o.op=some c):OpG E o FR σ c:=by
 obtain ⟨dst,op,ty,pos,af,gu⟩:=o;dsimp only at h;unfold dval at h;split at h
 .split at h
  .rename_i hb;obtain ⟨t,hv,ht⟩:=hk.get hb;rw[<-AV.force_eq h];exact kaa (Zfa hv ht)
  .rename_i hb;obtain ⟨t,hv,ht⟩:=hk.get hb;rw[<-AV.force_eq h];exact kaa (Qla hv ht)
  exact kaa (Zka hT h)
 exact kaa (Zka hT h)
def drun(T:Tab)(l:List Oper)(kn:List (Nat × Bool))(σ:Sto)(tl:List (Nat × AV)):List Oper->Nat->Fr->Option (List AV)
 | [],_,_=>some []
 | o::r,i,fr=>match o.dst with
  | none=>none
  | some d=>(match (match gsee l kn fr o with
   | some true=>(match tget tl i with | some c=>some c | none=>dval T kn fr σ o.op)
   | some false=>some (.tup [])
   | none=>none) with
   | some c=>(match drun T l kn σ tl r (i+1) ((d,c)::fr) with | some cs=>some (c::cs) | none=>none)
   | none=>none)
def dchk(T:Tab)(l:List Oper)(kn:List (Nat × Bool))(FR:Fr)(σ:Sto)(tl:List (Nat × AV))(cs:List AV)(i:Nat):Option AV:=match l[i]? with
 | none=>none
 | some o=>(match gsee l kn FR o with
  | some true=>(match tget tl i with | some _=>cs[i]? | none=>dval T kn FR σ o.op)
  | some false=>some (.tup [])
  | none=>none)
inductive vJb (E:Env) (l:List Oper) (cs:List AV) (FR:Fr) (σ:Sto):List (Nat × AV)->Prop
 | nil:vJb E l cs FR σ []
 | cons {i:Nat} {c:AV} {o:Oper} {r:List (Nat × AV)} (ho:l[i]? =some o) (hc:cs[i]? =some c) (h:OpG E o FR σ c) (hr:vJb E l cs FR σ r):vJb E l cs FR σ ((i,c)::r)
theorem vJb.get(h:vJb E l cs FR σ tl){i:Nat}{c:AV}(hi:tget tl i=some c):∃o c,l[i]? =some o/\cs[i]? =some c/\OpG E o FR σ c:=by
 induction h with
 | nil=>cases hi
 | @cons k c o r ho hc h _ ih=>
  unfold tget at hi;cases hb:Nat.beq k i with
  | true=>have:=jAi hb;subst this;exact ⟨o,c,ho,hc,h⟩
  | false=>rw[hb]at hi;exact ih hi
theorem ypb:∀{l' :List Oper} {cs' :List AV},cs'.length=l'.length->(∀(i:Nat) o c,l'[i]? =some o->cs'[i]? =some c->(kxa l.toArray FR o/\OpG E o FR σ c)∨(jHa l.toArray FR o/\c=.tup []))->Pres E l.toArray FR σ l' cs'
 | [],[],_,_=>.nil
 | [],_::_,h,_=>by simp at h
 | _::_,[],h,_=>by simp at h
 | o::r,c::cs,hl,h=>by
  have ih:=ypb (l' :=r) (cs' :=cs) (by simpa using hl) fun i o c h1 h2=>h (i+1) o c (by simpa using h1) (by simpa using h2)
  rcases h 0 o c rfl rfl with ⟨h1,h2⟩ | ⟨h1,rfl⟩
  .exact .run h1 h2 ih
  exact .skip h1 ih
def qTb:Fr->Option Fr
 | []=>some []
 | (k,a)::r=>match a.force with
  | some a' =>(match qTb r with | some r' =>some ((k,a')::r') | none=>none)
  | none=>none
theorem z2b:∀{f f' :Fr},qTb f=some f' ->f=f'
 | [],_,h=>by cases h;rfl
 | (k,a)::r,f',h=>by
  unfold qTb at h;split at h
  .rename_i a' ha;split at h
   .rename_i r' hr;cases h;rw[AV.force_eq ha,z2b hr]
   cases h
  cases h
theorem dq(n:Nat){id:Nat}(m:Nat)(kn:List (Nat × Bool))(tl:List (Nat × AV)){new:Fr}(hf:z1b (new++fr) kn)(ht:vJb E l cs (new++fr) σ tl)(h:(GS.ops l.toArray (l.drop m) (new++fr) σ k).holds E)
 (hmix:E.P.follows .mixedOrders=true) (hT:zEa E.P T:=by exact tk) (hg:GS.run T E.N n g=some (.code (.region id l.toArray true) fr σ k):=by exact rfl) (hz:drun T l kn σ tl (l.take m) 0 fr=some cs:=by exact rfl) (hn:qTb (wBa (l.take m) cs [])=some new:=by exact rfl)
 (hk:(wgb l m && Nat.ble m l.length && ((l.take m).all fun o=>o.dst.all fun d=>Nat.ble (d+1) E.N) && Nat.beq cs.length m,(List.range m).map (dchk T l kn (new++fr) σ tl cs))=(true,(List.range m).map (cs[·]?)):=by kernel_rfl):g.holds E:=by
 have k1:=congrArg Prod.fst hk;have k2:=congrArg Prod.snd hk;simp only[jAo]at k1;obtain ⟨⟨⟨q1,q2⟩,q3⟩,q4⟩:=k1;have hlen:=jAi q4;have hm:=jAe q2;refine rn hT n hg (whb m new hmix q1 q2 q3 (ypb (by simp;omega) fun i o c h1 h2=>?_) (z2b hn) h);have him:i < m:=by have:=(jAc.1 h1).1;simp at this;omega
 rw[jAs him]at h1;have e:=List.map_inj_left.1 k2 i (jCh.2 him);unfold dchk at e;rw[h1,h2]at e;dsimp only at e;split at e
 .rename_i hg;split at e
  .rename_i c' hc;obtain ⟨o',c'',e1,e2,e3⟩:=ht.get hc;rw[h1]at e1;rw[h2]at e2;cases e1;cases e2;exact .inl ⟨(qhb hf hg).1 rfl,e3⟩
  exact .inl ⟨(qhb hf hg).1 rfl,dval_ok hT hf e⟩
 .rename_i hg;cases e;exact .inr ⟨(qhb hf hg).2 rfl,rfl⟩
 cases e
end
theorem vKb(a0:List Int)(a1:List Int)(r:Bool)(hr:wPb a0 a1=some r):Run prog 25 [.l cI a0,.l cI a1] (.bo r):=by
 unfold wPb at hr;refine rfx (fn:=f25) func25 fun g0 hg=>?_
 refine rn tk 9 rfl<|wn tk rfl rfl rfl<|rn tk 1 rfl<|wn tk rfl rfl rfl ?_;refine ax 3 10 hr (fun hr=>?_) fun hr=>?_
 .exact kx 7 hr
 refine aq2 9 hr [0,1] [] (fun s2=>[(5,.i s2)]) (fun _=>[]) (.exit 0) [] [] (fun _=>[]) (fun _=>[]) .ret [] [] (fun b4=>[(4,.bo b4)]) (fun _=>[]) (fun s2 x6 hr=>?_) (fun b3 hr=>?_) (fun b4 hr=>?_)
 .unfold zFb at hr;refine rn tk 5 rfl<|wn tk rfl rfl rfl ?_;refine ax 3 14 hr (fun hr=>?_) fun hr=>?_
  .refine rn tk 5 rfl ?_;obtain ⟨v8,h9,hr⟩:=zaa hr;obtain ⟨v10,h11,hr⟩:=zaa hr;refine mdq 0 [(2,.ep [pI v8]),(6,.ep [pI v10])] [0,1,5,25] (.cons rfl rfl (t0 (kaa (Kwa (f:=cI) rfl rfl JJa w4a rfl h9))) (.cons rfl rfl (t0 (kaa (Kwa (f:=cI) rfl rfl JJa w4a rfl h11))) .nil)) ?_ mixed;refine ax 1 25 hr (fun hr=>?_) fun hr=>?_
   .exact ox 8 hr
   exact cx 8 hr
  exact ox 2 hr
 .exact kx 8 hr
 exact kx 2 hr
theorem zha(a0:zma)(r:Bool)(hr:zpa a0=some r):Run prog 30 [.agg [.i a0.Code,.i a0.Index]] (.bo r):=by
 unfold zpa at hr;refine rfx (fn:=f30) func30 fun g0 hg=>?_
 exact kx 15 hr
theorem zga(a0:Int)(a1:Int)(r:zma)(hr:zja a0 a1=some r):Run prog 28 [.i a0,.i a1] (.agg [.i r.Code,.i r.Index]):=by
 unfold zja at hr;refine rfx (fn:=f28) func28 fun g0 hg=>?_
 exact kx 14 hr
theorem zna(r:zma)(hr:zua=some r):Run prog 35 [] (.agg [.i r.Code,.i r.Index]):=by
 unfold zua at hr;refine rfx (fn:=f35) func35 fun g0 hg=>?_
 exact kx 12 hr
theorem JZa(a0:Str)(r:Bool)(hr:Zua a0=some r):Run prog 140 [.s a0] (.bo r):=by
 unfold Zua at hr;refine rfx (fn:=Tryz.f140) func140 fun g0 hg=>?_
 refine jq 5 hr [] [] (fun j1=>[(2,.bo j1)]) (fun _=>[]) (fun j1 hr=>?_) (fun j1 hr=>?_)
 .refine bx 4 5 hr (fun c2 hr=>?_) fun c2 hr=>?_
  .refine bx 5 10 hr (fun c3 hr=>?_) fun c3 hr=>?_
   .refine rn tk 1 rfl<|ug rfl rfl rfl ?_;refine ctq 0 hr [10] [] (fun j4=>[(12,.bo j4)]) (fun _=>[]) (fun j4 hr jump4=>?_) (fun j4 hr=>?_)
    .refine iq 0 400000 [10] (fn:=f89) ⟨func89,rfl,by kernel_rfl⟩ fun T4 ds4=>?_
     refine aq2 14 hr [0,1,7] [499999,400010] (fun s5=>[(8,.i s5)]) (fun _=>[]) (.exit 0) [] [499999,400010] (fun _=>[]) (fun _=>[]) .ret [4] [499999,400010] (fun _=>[]) (fun _=>[]) (fun s5 x9 hr=>?_) (fun b6 hr=>?_) (fun b7 hr=>?_)
     .unfold wHa at hr;refine ax 6 9 hr (fun hr=>?_) fun hr=>?_
      .refine rn tk 15 rfl ?_;obtain ⟨v11,h12,hr⟩:=zaa hr;refine ws tk h12 rfl rfl rfl rfl ?_;refine iq 0 600000 [0,1,7,8] (fn:=f179) ⟨func179,rfl,by kernel_rfl⟩ fun T6 ds6=>?_
       refine jq 5 hr [] [699999,600000,600001,600007,600008,499999,400010] (fun j13=>[(2,.bo j13)]) (fun _=>[]) (fun j13 hr=>?_) (fun j13 hr=>?_)
       .refine bx 4 5 hr (fun c14 hr=>?_) fun c14 hr=>?_
        .refine bx 4 9 hr (fun c15 hr=>?_) fun c15 hr=>?_
         .exact jx 5 hr
         exact jx 5 hr
        exact jx 9 hr
       refine ieq 1 (hO ?_);refine ax 3 16 hr (fun hr=>?_) fun hr=>?_
       .exact ox 8 hr
       exact cx 7 hr
      exact ox 2 hr
     .refine ieq 8 ?_;cases hr;exact jump4 _ _ rfl rfl
     refine ieq 2 ?_;cases hr;exact jump4 _ _ rfl rfl
    exact jx 3 hr
   exact jx 5 hr
  exact jx 10 hr
 exact kx 1 hr
theorem q2a(a0:UInt8)(r:Bool)(hr:qra a0=some r):Run prog 160 [.u8 a0] (.bo r):=by
 unfold qra at hr;refine rfx (fn:=Tryz.f160) func160 fun g0 hg=>?_
 refine jq 5 hr [] [] (fun j1=>[(2,.bo j1)]) (fun _=>[]) (fun j1 hr=>?_) (fun j1 hr=>?_)
 .refine bx 4 5 hr (fun c2 hr=>?_) fun c2 hr=>?_
  .exact jx 5 hr
  exact jx 5 hr
 exact kx 1 hr
theorem Yua(a0:Str)(a1:Int)(r:Int)(hr:jka a0 a1=some r):Run prog 142 [.s a0,.i a1] (.i r):=by
 unfold jka at hr;refine rfx (fn:=f142) func142 fun g0 hg=>?_
 refine rn tk 14 rfl<|wq (qwb rfl rfl) rfl rfl rfl ?_;refine aq1 4 hr [0] [] (fun s1=>[(5,.i s1.1),(6,.i s1.2)]) (fun _=>[]) (.exit 0) [] [] (fun b2=>[(5,.i b2)]) (fun _=>[]) (fun s1 x3 hr=>?_) (fun b2 hr=>?_)
 .unfold yca at hr;refine ax 9 12 hr (fun hr=>?_) fun hr=>?_
  .refine jkq 2 [0,6] [] (fun j5=>[(5,.i j5)]) (fun _=>[]) (fun j5=>qsa s1 j5=some x3) ?_ ?_
   .refine jq 2 hr [0,5,6] [] (fun j6=>[(26,.bo j6)]) (fun _=>[]) (fun j6 hr=>?_) (fun j6 hr=>?_)
    .refine rn tk 3 rfl ?_;obtain ⟨v7,h8,hr⟩:=zaa hr;refine ws tk h8 rfl rfl rfl rfl ?_;refine clx 0 hr (q2a _) fun v9 _ hr=>?_
     refine bx 2 20 hr (fun c11 hr=>?_) fun c11 hr=>?_
     .exact jx 7 hr
     refine rn tk 3 rfl ?_;obtain ⟨v12,h13,hr⟩:=zaa hr;refine ug rfl rfl rfl<|ws tk h13 rfl rfl rfl rfl ?_;obtain ⟨v14,h15,hr⟩:=zaa hr;refine ug rfl rfl rfl<|cl (q2a _ _ h15) rfl rfl ?_;exact jx 2 hr
    refine ax 0 26 hr (fun hr=>?_) fun hr=>?_
    .refine rn tk 3 rfl<|jn s1.1 hr rfl rfl
    refine jq 3 hr [0,5,6] [] (fun j17=>[(32,.bo j17)]) (fun _=>[]) (fun j17 hr=>?_) (fun j17 hr=>?_)
    .refine bx 4 29 hr (fun c18 hr=>?_) fun c18 hr=>?_
     .exact jx 4 hr
     exact jx 4 hr
    refine ax 0 32 hr (fun hr=>?_) fun hr=>?_
    .exact ox 4 hr
    refine rn tk 7 rfl<|jn s1.2 hr rfl rfl
   intro j5 hr;unfold qsa at hr;exact cx 5 hr
  exact ox 2 hr
 exact kx 9 hr
end Go.Proofs.YtpphhgbmooofgaaGreatDoor
namespace Go.Proofs
open Go.Shelf
def Tryz.lays156_ren:Go.Shelf.Ren:=⟨fun | 156=>66 | 165=>101 | 166=>102 | 169=>103 | 240=>134 | 241=>135 | 276=>172 | 277=>173 | n=>n,fun | 31=>54 | 9=>9 | 3=>3 | 4=>4 | 0=>0 | 20=>20 | 72=>152 | 76=>156 | 70=>150 | 37=>24 | 75=>155 | 127=>188 | 164=>217 | 5=>5 | 80=>158 | n=>n,fun | n=>n⟩
theorem Tryz.cqz{α:Type}{a:Option α}{x y:α}(h:a=some x)(e:x=y):a=some y:=h.trans (congrArg some e)
theorem Tryz.lays156:Go.Proofs.Lays.n156 prog Tryz.lays156_ren:=⟨by kernel_rfl,cqz func66 (by kernel_rfl),cqz func101 (by kernel_rfl),cqz func102 (by kernel_rfl),cqz func103 (by kernel_rfl),cqz func134 (by kernel_rfl),cqz func135 (by kernel_rfl),cqz func172 (by kernel_rfl),cqz func173 (by kernel_rfl),underlying0,isAgg0,sizeOf0,zeroValue0,underlying3,isAgg3,sizeOf3,zeroValue3,underlying4,isAgg4,sizeOf4,zeroValue4,underlying9,isAgg9,sizeOf9,zeroValue9,underlying20,isAgg20,sizeOf20,zeroValue20,underlying54,isAgg54,sizeOf54,zeroValue54,underlying24,isAgg24,sizeOf24,zeroValue24,underlying150,isAgg150,sizeOf150,zeroValue150,underlying152,isAgg152,sizeOf152,zeroValue152,underlying155,isAgg155,sizeOf155,zeroValue155,underlying156,isAgg156,sizeOf156,zeroValue156,underlying188,isAgg188,sizeOf188,zeroValue188,underlying217,isAgg217,sizeOf217,zeroValue217⟩
theorem Tryz.Builder_Extra_156:Builder.Extra prog Tryz.lays156_ren:={
 sizeBuilder:=by kernel_rfl
 liesBuilder:=by kernel_rfl
 t5:=underlying5
 a5:=isAgg5
 z5:=sizeOf5
 v5:=zeroValue5
 infoByte:=by kernel_rfl
 cellsByte:=by kernel_rfl
 sizeByte:=by kernel_rfl
 neB5:=by decide}
open Go.RowKit in
theorem Tryz.strings_Join_none(a:Option Addr)(c:Nat)(sep:ByteArray)(w:World):
 Calls prog 66 #[.slice a 0 c,.string sep] w fun e w' =>e=.returned (.string ⟨#[]⟩)/\w' =w:=Any.strings_Join_none Tryz.lays156 Tryz.Builder_Extra_156 a c sep w
open Go.RowKit in
theorem Tryz.strings_Join(bk o c:Nat)(xs:List ByteArray)(sep:ByteArray)(w:World)(hcells:∀(j:Nat) x,xs[j]? =some x->w.cell? ⟨bk,o+j,none⟩=some (.string x))(hbk:bk < w.heap.size)(hN:xs.length<=140737488355328)(hcap:xs.length<=c)(hlen:(Lib.join (xs.map (·.data.toList)) sep.data.toList).length<=140737488355328):
 Calls prog 66 #[.slice (some ⟨bk,o,none⟩) xs.length c,.string sep] w fun e w' =>e=.returned (.string ⟨(Lib.join (xs.map (·.data.toList)) sep.data.toList).toArray⟩)/\Below w.heap.size w w' :=Any.strings_Join Tryz.lays156 Tryz.Builder_Extra_156 bk o c xs sep w hcells hbk hN hcap hlen
def Tryz.lays161_ren:Go.Shelf.Ren:=⟨fun | 161=>215 | 231=>197 | 227=>199 | 233=>200 | 235=>202 | 228=>223 | 197=>224 | 151=>225 | 260=>243 | 152=>244 | 137=>95 | 119=>260 | 224=>183 | 225=>204 | 217=>127 | 266=>167 | n=>n,fun | 9=>9 | 4=>4 | 3=>3 | 5=>5 | 117=>262 | 116=>261 | 0=>0 | 124=>265 | 105=>278 | 21=>21 | 119=>237 | 46=>184 | 139=>240 | 138=>239 | n=>n,fun | 3=>2 | 4=>3 | n=>n⟩
theorem Tryz.lays161:Go.Proofs.Lays.n161 prog Tryz.lays161_ren:=⟨by kernel_rfl,cqz func260 (by kernel_rfl),cqz func95 (by kernel_rfl),cqz func225 (by kernel_rfl),cqz func244 (by kernel_rfl),cqz func215 (by kernel_rfl),cqz func224 (by kernel_rfl),cqz func127 (by kernel_rfl),cqz func183 (by kernel_rfl),cqz func204 (by kernel_rfl),cqz func199 (by kernel_rfl),cqz func223 (by kernel_rfl),cqz func197 (by kernel_rfl),cqz func200 (by kernel_rfl),cqz func202 (by kernel_rfl),cqz func243 (by kernel_rfl),cqz func167 (by kernel_rfl),underlying0,isAgg0,sizeOf0,zeroValue0,underlying3,isAgg3,sizeOf3,zeroValue3,underlying4,isAgg4,sizeOf4,zeroValue4,underlying5,isAgg5,sizeOf5,zeroValue5,underlying9,isAgg9,sizeOf9,zeroValue9,underlying21,isAgg21,sizeOf21,zeroValue21,underlying184,isAgg184,sizeOf184,zeroValue184,underlying278,isAgg278,sizeOf278,zeroValue278,underlying261,isAgg261,sizeOf261,underlying262,isAgg262,sizeOf262,zeroValue262,underlying237,isAgg237,sizeOf237,underlying265,isAgg265,sizeOf265,zeroValue265,underlying239,isAgg239,sizeOf239,zeroValue239,underlying240,isAgg240,sizeOf240,zeroValue240,by kernel_rfl,by kernel_rfl⟩
def Tryz.lays162_ren:Go.Shelf.Ren:=⟨fun | 162=>196 | 232=>198 | 227=>199 | 234=>201 | 236=>203 | 228=>223 | 271=>226 | 151=>225 | 120=>245 | 197=>224 | 152=>244 | 260=>243 | 137=>95 | 119=>260 | 224=>183 | 225=>204 | 217=>127 | 266=>167 | n=>n,fun | 9=>9 | 4=>4 | 3=>3 | 5=>5 | 117=>262 | 116=>261 | 0=>0 | 124=>265 | 21=>21 | 105=>278 | 46=>184 | 119=>237 | 139=>240 | 138=>239 | n=>n,fun | 3=>2 | 4=>3 | n=>n⟩
theorem Tryz.lays162:Go.Proofs.Lays.n162 prog Tryz.lays162_ren:=⟨by kernel_rfl,cqz func260 (by kernel_rfl),cqz func245 (by kernel_rfl),cqz func95 (by kernel_rfl),cqz func225 (by kernel_rfl),cqz func244 (by kernel_rfl),cqz func196 (by kernel_rfl),cqz func224 (by kernel_rfl),cqz func127 (by kernel_rfl),cqz func183 (by kernel_rfl),cqz func204 (by kernel_rfl),cqz func199 (by kernel_rfl),cqz func223 (by kernel_rfl),cqz func198 (by kernel_rfl),cqz func201 (by kernel_rfl),cqz func203 (by kernel_rfl),cqz func243 (by kernel_rfl),cqz func167 (by kernel_rfl),cqz func226 (by kernel_rfl),underlying0,isAgg0,sizeOf0,zeroValue0,underlying3,isAgg3,sizeOf3,zeroValue3,underlying4,isAgg4,sizeOf4,zeroValue4,underlying5,isAgg5,sizeOf5,zeroValue5,underlying9,isAgg9,sizeOf9,zeroValue9,underlying21,isAgg21,sizeOf21,zeroValue21,underlying184,isAgg184,sizeOf184,zeroValue184,underlying278,isAgg278,sizeOf278,zeroValue278,underlying261,isAgg261,sizeOf261,underlying262,isAgg262,sizeOf262,zeroValue262,underlying237,isAgg237,sizeOf237,underlying265,isAgg265,sizeOf265,zeroValue265,underlying239,isAgg239,sizeOf239,zeroValue239,underlying240,isAgg240,sizeOf240,zeroValue240,by kernel_rfl,by kernel_rfl⟩
def Tryz.lays160_ren:Go.Shelf.Ren:=⟨fun | 160=>162 | 232=>198 | 231=>197 | 227=>199 | 234=>201 | 233=>200 | 236=>203 | 235=>202 | 228=>223 | 271=>226 | 151=>225 | 197=>224 | 120=>245 | 152=>244 | 260=>243 | 137=>95 | 119=>260 | 224=>183 | 225=>204 | 217=>127 | 266=>167 | n=>n,fun | 9=>9 | 4=>4 | 3=>3 | 5=>5 | 117=>262 | 116=>261 | 0=>0 | 124=>265 | 21=>21 | 105=>278 | 46=>184 | 119=>237 | 139=>240 | 138=>239 | n=>n,fun | 3=>2 | 4=>3 | n=>n⟩
theorem Tryz.lays160:Go.Proofs.Lays.n160 prog Tryz.lays160_ren:=⟨by kernel_rfl,cqz func260 (by kernel_rfl),cqz func245 (by kernel_rfl),cqz func95 (by kernel_rfl),cqz func225 (by kernel_rfl),cqz func244 (by kernel_rfl),cqz func162 (by kernel_rfl),cqz func224 (by kernel_rfl),cqz func127 (by kernel_rfl),cqz func183 (by kernel_rfl),cqz func204 (by kernel_rfl),cqz func199 (by kernel_rfl),cqz func223 (by kernel_rfl),cqz func197 (by kernel_rfl),cqz func198 (by kernel_rfl),cqz func200 (by kernel_rfl),cqz func201 (by kernel_rfl),cqz func202 (by kernel_rfl),cqz func203 (by kernel_rfl),cqz func243 (by kernel_rfl),cqz func167 (by kernel_rfl),cqz func226 (by kernel_rfl),underlying0,isAgg0,sizeOf0,zeroValue0,underlying3,isAgg3,sizeOf3,zeroValue3,underlying4,isAgg4,sizeOf4,zeroValue4,underlying5,isAgg5,sizeOf5,zeroValue5,underlying9,isAgg9,sizeOf9,zeroValue9,underlying21,isAgg21,sizeOf21,zeroValue21,underlying184,isAgg184,sizeOf184,zeroValue184,underlying278,isAgg278,sizeOf278,zeroValue278,underlying261,isAgg261,sizeOf261,underlying262,isAgg262,sizeOf262,zeroValue262,underlying237,isAgg237,sizeOf237,underlying265,isAgg265,sizeOf265,zeroValue265,underlying239,isAgg239,sizeOf239,zeroValue239,underlying240,isAgg240,sizeOf240,zeroValue240,by kernel_rfl,by kernel_rfl⟩
def Tryz.lays137_ren:Go.Shelf.Ren:=⟨fun | 137=>95 | 217=>127 | 266=>167 | n=>n,fun | 9=>9 | 5=>5 | 3=>3 | n=>n,fun | n=>n⟩
theorem Tryz.lays137:Go.Proofs.Lays.n137 prog Tryz.lays137_ren:=⟨by kernel_rfl,cqz func95 (by kernel_rfl),cqz func127 (by kernel_rfl),cqz func167 (by kernel_rfl),underlying3,isAgg3,sizeOf3,zeroValue3,underlying5,isAgg5,sizeOf5,zeroValue5,underlying9,isAgg9,sizeOf9,zeroValue9⟩
open Go.RowKit in
theorem Tryz.strings_IndexByte(s:ByteArray)(c:Int)(w:World):
 Calls prog 95 #[.string s,.int .u8 c] w fun e w' =>e=.returned (.int .i64 (Lib.indexByte s.data.toList c.toNat.toUInt8))/\w' =w:=Any.strings_IndexByte Tryz.lays137 s c w
def Tryz.lays104_ren:Go.Shelf.Ren:=⟨fun | 104=>213 | 211=>230 | 207=>168 | n=>n,fun | 9=>9 | 4=>4 | 24=>34 | 3=>3 | n=>n,fun | n=>n⟩
theorem Tryz.lays104:Go.Proofs.Lays.n104 prog Tryz.lays104_ren:=⟨by kernel_rfl,cqz func213 (by kernel_rfl),cqz func168 (by kernel_rfl),cqz func230 (by kernel_rfl),underlying3,isAgg3,sizeOf3,zeroValue3,underlying4,isAgg4,sizeOf4,zeroValue4,underlying9,isAgg9,sizeOf9,zeroValue9,underlying34,isAgg34,sizeOf34,zeroValue34⟩
open Go.RowKit in
theorem Tryz.strings_CutSuffix(s p:ByteArray)(w:World)(hs:s.size<=9223372036854775807):
 Calls prog 213 #[.string s,.string p] w fun e w' =>e=.returned (.tuple #[.string ⟨(Lib.trimSuffix s.data.toList p.data.toList).toArray⟩,.bool (Lib.hasSuffix s.data.toList p.data.toList)])/\w' =w:=Any.strings_CutSuffix Tryz.lays104 s p w hs
def Tryz.lays172_ren:Go.Shelf.Ren:=⟨fun | 172=>231 | 244=>247 | 245=>248 | 247=>261 | 279=>262 | 280=>263 | 281=>264 | 282=>265 | 287=>285 | 316=>286 | 171=>33 | 205=>287 | 321=>300 | 322=>301 | 243=>69 | 246=>104 | 283=>136 | 284=>137 | 285=>138 | 286=>139 | 129=>175 | 317=>174 | 318=>176 | 319=>177 | 320=>178 | 337=>206 | 338=>207 | n=>n,fun | 9=>9 | 3=>3 | 75=>155 | 76=>156 | 4=>4 | 5=>5 | 167=>322 | 37=>24 | 0=>0 | 85=>323 | 2=>2 | 168=>325 | 53=>190 | 175=>345 | 46=>184 | 210=>348 | 127=>188 | 145=>361 | 143=>359 | 21=>21 | 171=>189 | 173=>193 | 212=>221 | 51=>212 | 20=>20 | 213=>222 | 232=>282 | 233=>283 | 80=>158 | n=>n,fun | 15=>6 | 16=>7 | 17=>0 | 18=>4 | 19=>5 | n=>n⟩
theorem Tryz.lays172:Go.Proofs.Lays.n172 prog Tryz.lays172_ren:=⟨by kernel_rfl,cqz func175 (by kernel_rfl),cqz func33 (by kernel_rfl),cqz func231 (by kernel_rfl),cqz func287 (by kernel_rfl),cqz func69 (by kernel_rfl),cqz func247 (by kernel_rfl),cqz func248 (by kernel_rfl),cqz func104 (by kernel_rfl),cqz func261 (by kernel_rfl),cqz func262 (by kernel_rfl),cqz func263 (by kernel_rfl),cqz func264 (by kernel_rfl),cqz func265 (by kernel_rfl),cqz func136 (by kernel_rfl),cqz func137 (by kernel_rfl),cqz func138 (by kernel_rfl),cqz func139 (by kernel_rfl),cqz func285 (by kernel_rfl),cqz func286 (by kernel_rfl),cqz func174 (by kernel_rfl),cqz func176 (by kernel_rfl),cqz func177 (by kernel_rfl),cqz func178 (by kernel_rfl),cqz func300 (by kernel_rfl),cqz func301 (by kernel_rfl),cqz func206 (by kernel_rfl),cqz func207 (by kernel_rfl),underlying0,isAgg0,sizeOf0,zeroValue0,underlying2,isAgg2,sizeOf2,zeroValue2,underlying3,isAgg3,sizeOf3,zeroValue3,underlying4,isAgg4,sizeOf4,zeroValue4,underlying5,isAgg5,sizeOf5,zeroValue5,underlying9,isAgg9,sizeOf9,zeroValue9,underlying20,isAgg20,sizeOf20,zeroValue20,underlying21,isAgg21,sizeOf21,zeroValue21,underlying24,isAgg24,sizeOf24,zeroValue24,underlying184,isAgg184,sizeOf184,zeroValue184,underlying212,isAgg212,sizeOf212,zeroValue212,underlying190,isAgg190,sizeOf190,zeroValue190,underlying155,isAgg155,sizeOf155,zeroValue155,underlying156,isAgg156,sizeOf156,zeroValue156,underlying323,isAgg323,sizeOf323,zeroValue323,underlying188,isAgg188,sizeOf188,zeroValue188,underlying359,isAgg359,sizeOf359,zeroValue359,underlying361,isAgg361,sizeOf361,zeroValue361,underlying322,isAgg322,sizeOf322,zeroValue322,underlying325,isAgg325,sizeOf325,zeroValue325,underlying189,isAgg189,sizeOf189,zeroValue189,underlying193,isAgg193,sizeOf193,zeroValue193,underlying345,isAgg345,sizeOf345,zeroValue345,underlying348,isAgg348,sizeOf348,zeroValue348,underlying221,isAgg221,sizeOf221,zeroValue221,underlying222,isAgg222,sizeOf222,underlying282,isAgg282,sizeOf282,zeroValue282,underlying283,isAgg283,sizeOf283,zeroValue283,by kernel_rfl,by kernel_rfl,by kernel_rfl,by kernel_rfl,by kernel_rfl⟩
open Go.RowKit in
theorem Tryz.strconv_Atoi(s:ByteArray)(n:Int)(hl:s.size<=18)(h:Lib.atoi s.data.toList=some n)(w:World):
 Calls prog 231 #[.string s] w fun e w' =>e=.returned (.tuple #[.int .i64 n,.nilIface])/\∃t,w' =Lib.bytesWorld w 5 t:=Any.strconv_Atoi Tryz.lays172 s n hl h w
def Tryz.laysM171_ren:Go.Shelf.Ren:=⟨fun | 171=>33 | 243=>69 | 246=>104 | 283=>136 | 284=>137 | 285=>138 | 286=>139 | 129=>175 | 317=>174 | 318=>176 | 319=>177 | 320=>178 | 337=>206 | 338=>207 | n=>n,fun | 3=>3 | 9=>9 | 2=>2 | 4=>4 | 171=>189 | 0=>0 | 53=>190 | 37=>24 | 5=>5 | 173=>193 | 212=>221 | 51=>212 | 20=>20 | 213=>222 | 46=>184 | 232=>282 | 233=>283 | n=>n,fun | 17=>0 | 18=>4 | 19=>5 | n=>n⟩
theorem Tryz.laysM171:Go.Proofs.LaysM.n171 prog Tryz.laysM171_ren:={mixed:=by kernel_rfl,f129:=cqz func175 (by kernel_rfl),f171:=cqz func33 (by kernel_rfl),f243:=cqz func69 (by kernel_rfl),f246:=cqz func104 (by kernel_rfl),f283:=cqz func136 (by kernel_rfl),f284:=cqz func137 (by kernel_rfl),f285:=cqz func138 (by kernel_rfl),f286:=cqz func139 (by kernel_rfl),f317:=cqz func174 (by kernel_rfl),f318:=cqz func176 (by kernel_rfl),f319:=cqz func177 (by kernel_rfl),f320:=cqz func178 (by kernel_rfl),f337:=cqz func206 (by kernel_rfl),f338:=cqz func207 (by kernel_rfl),t0:=underlying0,a0:=isAgg0,z0:=sizeOf0,v0:=zeroValue0,t2:=underlying2,a2:=isAgg2,z2:=sizeOf2,v2:=zeroValue2,t3:=underlying3,a3:=isAgg3,z3:=sizeOf3,v3:=zeroValue3,t4:=underlying4,a4:=isAgg4,z4:=sizeOf4,v4:=zeroValue4,t5:=underlying5,a5:=isAgg5,z5:=sizeOf5,v5:=zeroValue5,t9:=underlying9,a9:=isAgg9,z9:=sizeOf9,v9:=zeroValue9,t20:=underlying20,a20:=isAgg20,z20:=sizeOf20,v20:=zeroValue20,t37:=underlying24,a37:=isAgg24,z37:=sizeOf24,v37:=zeroValue24,t46:=underlying184,a46:=isAgg184,z46:=sizeOf184,v46:=zeroValue184,t51:=underlying212,a51:=isAgg212,z51:=sizeOf212,v51:=zeroValue212,t53:=underlying190,a53:=isAgg190,z53:=sizeOf190,v53:=zeroValue190,t171:=underlying189,a171:=isAgg189,z171:=sizeOf189,v171:=zeroValue189,t173:=underlying193,a173:=isAgg193,z173:=sizeOf193,v173:=zeroValue193,t212:=underlying221,a212:=isAgg221,z212:=sizeOf221,v212:=zeroValue221,t213:=underlying222,a213:=isAgg222,z213:=sizeOf222,t232:=underlying282,a232:=isAgg282,z232:=sizeOf282,v232:=zeroValue282,t233:=underlying283,a233:=isAgg283,z233:=sizeOf283,v233:=zeroValue283,g17:=by kernel_rfl,g18:=by kernel_rfl,g19:=by kernel_rfl,i0:=by kernel_rfl,i2:=by kernel_rfl,i3:=by kernel_rfl,i4:=by kernel_rfl,i5:=by kernel_rfl,i9:=by kernel_rfl,i20:=by kernel_rfl,i37:=by kernel_rfl,i46:=by kernel_rfl,i51:=by kernel_rfl,i53:=by kernel_rfl,i171:=by kernel_rfl,i173:=by kernel_rfl,i212:=by kernel_rfl,i232:=by kernel_rfl,i233:=by kernel_rfl,m17:=by kernel_rfl,m18:=by kernel_rfl,m19:=by kernel_rfl}
open Go.RowKit Go.Sort Go.Lib in
theorem Tryz.strconv_Itoa (n : Int) (h0 : -9223372036854775808 <= n) (h1 : n <= 9223372036854775807) (w : World) (htab : Lib.TabIs prog w "internal/strconv.uint64pow10" .u64 Lib.pow10Tab) :
 Calls prog 33 #[.int .i64 n] w fun e w' =>e=.returned (.string ⟨(Lib.itoa n).toArray⟩)/\∃k os,w' =grow (w.drewN k) os:=Any.strconv_Itoa Tryz.laysM171 n h0 h1 w htab
def Tryz.laysC172_ren:Go.Shelf.Ren:=⟨fun | 172=>231 | 244=>247 | 245=>248 | 247=>261 | 279=>262 | 280=>263 | 281=>264 | 282=>265 | 287=>285 | 316=>286 | 171=>33 | 205=>287 | 321=>300 | 322=>301 | 243=>69 | 246=>104 | 283=>136 | 284=>137 | 285=>138 | 286=>139 | 129=>175 | 317=>174 | 318=>176 | 319=>177 | 320=>178 | 337=>206 | 338=>207 | n=>n,fun | 9=>9 | 3=>3 | 75=>155 | 76=>156 | 4=>4 | 5=>5 | 167=>322 | 37=>24 | 0=>0 | 85=>323 | 2=>2 | 168=>325 | 53=>190 | 175=>345 | 46=>184 | 210=>348 | 127=>188 | 145=>361 | 143=>359 | 21=>21 | 171=>189 | 173=>193 | 212=>221 | 51=>212 | 20=>20 | 213=>222 | 232=>282 | 233=>283 | 80=>158 | n=>n,fun | 15=>6 | 16=>7 | 17=>0 | 18=>4 | 19=>5 | n=>n⟩
theorem Tryz.laysC172:Go.Proofs.LaysC.n172 prog Tryz.laysC172_ren:={mixed:=by kernel_rfl,f129:=cqz func175 (by kernel_rfl),f171:=cqz func33 (by kernel_rfl),f172:=cqz func231 (by kernel_rfl),f205:=cqz func287 (by kernel_rfl),f243:=cqz func69 (by kernel_rfl),f244:=cqz func247 (by kernel_rfl),f245:=cqz func248 (by kernel_rfl),f246:=cqz func104 (by kernel_rfl),f247:=cqz func261 (by kernel_rfl),f279:=cqz func262 (by kernel_rfl),f280:=cqz func263 (by kernel_rfl),f281:=cqz func264 (by kernel_rfl),f282:=cqz func265 (by kernel_rfl),f283:=cqz func136 (by kernel_rfl),f284:=cqz func137 (by kernel_rfl),f285:=cqz func138 (by kernel_rfl),f286:=cqz func139 (by kernel_rfl),f287:=cqz func285 (by kernel_rfl),f316:=cqz func286 (by kernel_rfl),f317:=cqz func174 (by kernel_rfl),f318:=cqz func176 (by kernel_rfl),f319:=cqz func177 (by kernel_rfl),f320:=cqz func178 (by kernel_rfl),f321:=cqz func300 (by kernel_rfl),f322:=cqz func301 (by kernel_rfl),f337:=cqz func206 (by kernel_rfl),f338:=cqz func207 (by kernel_rfl),t0:=underlying0,a0:=isAgg0,z0:=sizeOf0,v0:=zeroValue0,t2:=underlying2,a2:=isAgg2,z2:=sizeOf2,v2:=zeroValue2,t3:=underlying3,a3:=isAgg3,z3:=sizeOf3,v3:=zeroValue3,t4:=underlying4,a4:=isAgg4,z4:=sizeOf4,v4:=zeroValue4,t5:=underlying5,a5:=isAgg5,z5:=sizeOf5,v5:=zeroValue5,t9:=underlying9,a9:=isAgg9,z9:=sizeOf9,v9:=zeroValue9,t20:=underlying20,a20:=isAgg20,z20:=sizeOf20,v20:=zeroValue20,t21:=underlying21,a21:=isAgg21,z21:=sizeOf21,v21:=zeroValue21,t37:=underlying24,a37:=isAgg24,z37:=sizeOf24,v37:=zeroValue24,t46:=underlying184,a46:=isAgg184,z46:=sizeOf184,v46:=zeroValue184,t51:=underlying212,a51:=isAgg212,z51:=sizeOf212,v51:=zeroValue212,t53:=underlying190,a53:=isAgg190,z53:=sizeOf190,v53:=zeroValue190,t75:=underlying155,a75:=isAgg155,z75:=sizeOf155,v75:=zeroValue155,t76:=underlying156,a76:=isAgg156,z76:=sizeOf156,v76:=zeroValue156,t85:=underlying323,a85:=isAgg323,z85:=sizeOf323,v85:=zeroValue323,t127:=underlying188,a127:=isAgg188,z127:=sizeOf188,v127:=zeroValue188,t143:=underlying359,a143:=isAgg359,z143:=sizeOf359,v143:=zeroValue359,t145:=underlying361,a145:=isAgg361,z145:=sizeOf361,v145:=zeroValue361,t167:=underlying322,a167:=isAgg322,z167:=sizeOf322,v167:=zeroValue322,t168:=underlying325,a168:=isAgg325,z168:=sizeOf325,v168:=zeroValue325,t171:=underlying189,a171:=isAgg189,z171:=sizeOf189,v171:=zeroValue189,t173:=underlying193,a173:=isAgg193,z173:=sizeOf193,v173:=zeroValue193,t175:=underlying345,a175:=isAgg345,z175:=sizeOf345,v175:=zeroValue345,t210:=underlying348,a210:=isAgg348,z210:=sizeOf348,v210:=zeroValue348,t212:=underlying221,a212:=isAgg221,z212:=sizeOf221,v212:=zeroValue221,t213:=underlying222,a213:=isAgg222,z213:=sizeOf222,t232:=underlying282,a232:=isAgg282,z232:=sizeOf282,v232:=zeroValue282,t233:=underlying283,a233:=isAgg283,z233:=sizeOf283,v233:=zeroValue283,g15:=by kernel_rfl,g16:=by kernel_rfl,g17:=by kernel_rfl,g18:=by kernel_rfl,g19:=by kernel_rfl,t80:=underlying158,a80:=isAgg158,z80:=sizeOf158,v80:=zeroValue158,i0:=by kernel_rfl,i2:=by kernel_rfl,i3:=by kernel_rfl,i4:=by kernel_rfl,i5:=by kernel_rfl,i9:=by kernel_rfl,i20:=by kernel_rfl,i21:=by kernel_rfl,i37:=by kernel_rfl,i46:=by kernel_rfl,i51:=by kernel_rfl,i53:=by kernel_rfl,i75:=by kernel_rfl,i76:=by kernel_rfl,i80:=by kernel_rfl,i85:=by kernel_rfl,i127:=by kernel_rfl,i143:=by kernel_rfl,i145:=by kernel_rfl,i167:=by kernel_rfl,i168:=by kernel_rfl,i171:=by kernel_rfl,i173:=by kernel_rfl,i175:=by kernel_rfl,i210:=by kernel_rfl,i212:=by kernel_rfl,i232:=by kernel_rfl,i233:=by kernel_rfl,m15:=by kernel_rfl,m16:=by kernel_rfl,m17:=by kernel_rfl,m18:=by kernel_rfl,m19:=by kernel_rfl,c0:=by kernel_rfl,c2:=by kernel_rfl,c3:=by kernel_rfl,c4:=by kernel_rfl,c5:=by kernel_rfl,c9:=by kernel_rfl,c20:=by kernel_rfl,c21:=by kernel_rfl,c37:=by kernel_rfl,c46:=by kernel_rfl,c51:=by kernel_rfl,c53:=by kernel_rfl,c75:=by kernel_rfl,c76:=by kernel_rfl,c80:=by kernel_rfl,c85:=by kernel_rfl,c127:=by kernel_rfl,c143:=by kernel_rfl,c145:=by kernel_rfl,c167:=by kernel_rfl,c168:=by kernel_rfl,c171:=by kernel_rfl,c173:=by kernel_rfl,c175:=by kernel_rfl,c210:=by kernel_rfl,c212:=by kernel_rfl,c213:=by kernel_rfl,c232:=by kernel_rfl,c233:=by kernel_rfl}
open Go.RowKit in
theorem Tryz.strconv_Atoi_err_var (s : ByteArray) (hl : s.size <= 18) (h : Lib.atoi s.data.toList = none) (tp : TypeId) (p : Value) (w : World) (hvar : w.var? prog "strconv.ErrSyntax" = some #[.iface tp p]) :
 Calls prog 231 #[.string s] w fun e w' =>∃N,e=.returned (.tuple #[.int .i64 0,.iface 325 (.pointer (some ⟨N,0,none⟩))])/\w.heap.size<=N/\w'.heap[N]? =some (.cells #[.string ⟨#[65,116,111,105]⟩,.string s,.iface tp p] 348 (0,0))/\Below w.heap.size w w' :=Any.strconv_Atoi_err_var Tryz.laysC172 s hl h tp p w hvar
def Tryz.lays144_ren:Go.Shelf.Ren:=⟨fun | 144=>130 | 143=>169 | 219=>166 | 217=>127 | 225=>204 | 224=>183 | 267=>205 | 266=>167 | 314=>227 | n=>n,fun | 9=>9 | 4=>4 | 3=>3 | 5=>5 | 46=>184 | 146=>213 | 51=>212 | n=>n,fun | 1=>1 | n=>n⟩
theorem Tryz.lays144:Go.Proofs.Lays.n144 prog Tryz.lays144_ren:=⟨by kernel_rfl,cqz func169 (by kernel_rfl),cqz func130 (by kernel_rfl),cqz func127 (by kernel_rfl),cqz func166 (by kernel_rfl),cqz func183 (by kernel_rfl),cqz func204 (by kernel_rfl),cqz func167 (by kernel_rfl),cqz func205 (by kernel_rfl),cqz func227 (by kernel_rfl),underlying3,isAgg3,sizeOf3,zeroValue3,underlying4,isAgg4,sizeOf4,zeroValue4,underlying5,isAgg5,sizeOf5,zeroValue5,underlying9,isAgg9,sizeOf9,zeroValue9,underlying184,isAgg184,sizeOf184,zeroValue184,underlying212,isAgg212,sizeOf212,zeroValue212,underlying213,isAgg213,sizeOf213,zeroValue213,by kernel_rfl⟩
open Go.RowKit Go.Lib in
theorem Tryz.strings_Contains(s sub:ByteArray)(m:Int)(w:World)(hs:s.size < 4294967281)(hm:w.cell? ⟨1,0,none⟩=some (.int .i64 m)):
 Calls prog 130 #[.string s,.string sub] w fun e w' =>e=.returned (.bool (Lib.contains s.data.toList sub.data.toList))/\w' =w:=Any.strings_Contains Tryz.lays144 s sub m w hs hm
def Tryz.lays145_ren:Go.Shelf.Ren:=⟨fun | 145=>93 | 220=>126 | 219=>166 | 217=>127 | 225=>204 | 224=>183 | 267=>205 | 266=>167 | 314=>227 | n=>n,fun | 9=>9 | 4=>4 | 59=>102 | 3=>3 | 5=>5 | 46=>184 | 146=>213 | 51=>212 | n=>n,fun | 1=>1 | n=>n⟩
theorem Tryz.lays145:Go.Proofs.Lays.n145 prog Tryz.lays145_ren:=⟨by kernel_rfl,cqz func93 (by kernel_rfl),cqz func127 (by kernel_rfl),cqz func166 (by kernel_rfl),cqz func126 (by kernel_rfl),cqz func183 (by kernel_rfl),cqz func204 (by kernel_rfl),cqz func167 (by kernel_rfl),cqz func205 (by kernel_rfl),cqz func227 (by kernel_rfl),underlying3,isAgg3,sizeOf3,zeroValue3,underlying4,isAgg4,sizeOf4,zeroValue4,underlying5,isAgg5,sizeOf5,zeroValue5,underlying9,isAgg9,sizeOf9,zeroValue9,underlying184,isAgg184,sizeOf184,zeroValue184,underlying212,isAgg212,sizeOf212,zeroValue212,underlying102,isAgg102,sizeOf102,zeroValue102,underlying213,isAgg213,sizeOf213,zeroValue213,by kernel_rfl⟩
open Go.RowKit Go.Lib in
theorem Tryz.strings_Cut(s sep:ByteArray)(m:Int)(w:World)(hs:s.size < 4294967281)(hm:w.cell? ⟨1,0,none⟩=some (.int .i64 m)):
 Calls prog 93 #[.string s,.string sep] w fun e w' =>e=.returned (.tuple #[.string ⟨(Lib.cut s.data.toList sep.data.toList).1.toArray⟩,.string ⟨(Lib.cut s.data.toList sep.data.toList).2.1.toArray⟩,.bool (Lib.cut s.data.toList sep.data.toList).2.2])/\∃n,w' =w.drewN n:=Any.strings_Cut Tryz.lays145 s sep m w hs hm
def Tryz.lays99_ren:Go.Shelf.Ren:=⟨fun | 99=>113 | 206=>147 | n=>n,fun | 9=>9 | 4=>4 | 3=>3 | n=>n,fun | n=>n⟩
theorem Tryz.lays99:Go.Proofs.Lays.n99 prog Tryz.lays99_ren:=⟨by kernel_rfl,cqz func113 (by kernel_rfl),cqz func147 (by kernel_rfl),underlying3,isAgg3,sizeOf3,zeroValue3,underlying4,isAgg4,sizeOf4,zeroValue4,underlying9,isAgg9,sizeOf9,zeroValue9⟩
open Go.RowKit Go.Lib in
theorem Tryz.strings_HasPrefix(s p:ByteArray)(w:World):
 Calls prog 113 #[.string s,.string p] w fun e w' =>e=.returned (.bool (Lib.hasPrefix s.data.toList p.data.toList))/\w' =w:=Any.strings_HasPrefix Tryz.lays99 s p w
def Tryz.lays100_ren:Go.Shelf.Ren:=⟨fun | 100=>129 | 207=>168 | n=>n,fun | 9=>9 | 4=>4 | 3=>3 | n=>n,fun | n=>n⟩
theorem Tryz.lays100:Go.Proofs.Lays.n100 prog Tryz.lays100_ren:=⟨by kernel_rfl,cqz func129 (by kernel_rfl),cqz func168 (by kernel_rfl),underlying3,isAgg3,sizeOf3,zeroValue3,underlying4,isAgg4,sizeOf4,zeroValue4,underlying9,isAgg9,sizeOf9,zeroValue9⟩
open Go.RowKit Go.Lib in
theorem Tryz.strings_HasSuffix(s p:ByteArray)(w:World)(hs:s.size<=9223372036854775807):
 Calls prog 129 #[.string s,.string p] w fun e w' =>e=.returned (.bool (Lib.hasSuffix s.data.toList p.data.toList))/\w' =w:=Any.strings_HasSuffix Tryz.lays100 s p w hs
def Tryz.lays226_ren:Go.Shelf.Ren:=⟨fun | 226=>246 | n=>n,fun | 3=>3 | 4=>4 | n=>n,fun | n=>n⟩
theorem Tryz.lays226:Go.Proofs.Lays.n226 prog Tryz.lays226_ren:=⟨by kernel_rfl,cqz func246 (by kernel_rfl),underlying3,isAgg3,sizeOf3,zeroValue3,underlying4,isAgg4,sizeOf4,zeroValue4⟩
open Go.RowKit Go.Lib in
theorem Tryz.strings_shouldUseASCIISet(n:Int)(w:World):
 Calls prog 246 #[.int .i64 n] w fun e w' =>e=.returned (.bool (decide (8 < n)))/\w' =w:=Any.strings_shouldUseASCIISet Tryz.lays226 n w
def Tryz.lays153_ren:Go.Shelf.Ren:=⟨fun | 153=>228 | 152=>244 | 226=>246 | 227=>199 | 228=>223 | 137=>95 | 119=>260 | 224=>183 | 225=>204 | 217=>127 | 266=>167 | n=>n,fun | 9=>9 | 3=>3 | 4=>4 | 5=>5 | 21=>21 | 117=>262 | 116=>261 | 0=>0 | 46=>184 | 124=>265 | n=>n,fun | n=>n⟩
theorem Tryz.lays153:Go.Proofs.Lays.n153 prog Tryz.lays153_ren:=⟨by kernel_rfl,cqz func260 (by kernel_rfl),cqz func95 (by kernel_rfl),cqz func244 (by kernel_rfl),cqz func228 (by kernel_rfl),cqz func127 (by kernel_rfl),cqz func183 (by kernel_rfl),cqz func204 (by kernel_rfl),cqz func246 (by kernel_rfl),cqz func199 (by kernel_rfl),cqz func223 (by kernel_rfl),cqz func167 (by kernel_rfl),underlying0,isAgg0,sizeOf0,zeroValue0,underlying3,isAgg3,sizeOf3,zeroValue3,underlying4,isAgg4,sizeOf4,zeroValue4,underlying5,isAgg5,sizeOf5,zeroValue5,underlying9,isAgg9,sizeOf9,zeroValue9,underlying21,isAgg21,sizeOf21,zeroValue21,underlying184,isAgg184,sizeOf184,zeroValue184,underlying261,isAgg261,sizeOf261,underlying262,isAgg262,sizeOf262,zeroValue262,underlying265,isAgg265,sizeOf265,zeroValue265⟩
open Go.RowKit Go.Lib in
theorem Tryz.strings_IndexAny_long(hv116:∀w,(zeroValue 261).run prog w=.ok (.agg (Array.replicate 256 (.bool false))) w)(s chars:ByteArray)(w:World)(h2:2<=chars.size)(h8:8 < s.size)(hs:s.size < 4294967281)(hcs:chars.size < 4294967281)(hascii:∀(j:Nat) b,chars.data.toList[j]? =some b->b.toNat < 128):
 Calls prog 228 #[.string s,.string chars] w fun e w' =>e=.returned (.int .i64 (Lib.indexAny s.data.toList chars.data.toList))/\w' =((w.alloc (.cells (Lib.setCells chars.data.toList) 261)).alloc (.cells (Lib.setCells chars.data.toList) 261)):=Any.strings_IndexAny_long Tryz.lays153 hv116 (by kernel_rfl) s chars w h2 h8 hs hcs hascii
open Go.RowKit Go.Lib in
theorem Tryz.strings_IndexAny(hv116:∀w,(zeroValue 261).run prog w=.ok (.agg (Array.replicate 256 (.bool false))) w)(s chars:ByteArray)(w:World)(hs:s.size < 4294967281)(hcs:chars.size < 4294967281)(has:∀(j:Nat) b,s.data.toList[j]? =some b->b.toNat < 128)(hac:∀(j:Nat) b,chars.data.toList[j]? =some b->b.toNat < 128):
 Calls prog 228 #[.string s,.string chars] w fun e w' =>e=.returned (.int .i64 (Lib.indexAny s.data.toList chars.data.toList))/\Below w.heap.size w w' :=Any.strings_IndexAny Tryz.lays153 hv116 (by kernel_rfl) s chars w hs hcs has hac
def Tryz.lays150_ren:Go.Shelf.Ren:=⟨fun | 150=>208 | 153=>228 | 152=>244 | 226=>246 | 227=>199 | 228=>223 | 137=>95 | 119=>260 | 224=>183 | 225=>204 | 217=>127 | 266=>167 | n=>n,fun | 9=>9 | 4=>4 | 3=>3 | 5=>5 | 21=>21 | 117=>262 | 116=>261 | 0=>0 | 46=>184 | 124=>265 | n=>n,fun | n=>n⟩
theorem Tryz.lays150:Go.Proofs.Lays.n150 prog Tryz.lays150_ren:=⟨by kernel_rfl,cqz func260 (by kernel_rfl),cqz func95 (by kernel_rfl),cqz func208 (by kernel_rfl),cqz func244 (by kernel_rfl),cqz func228 (by kernel_rfl),cqz func127 (by kernel_rfl),cqz func183 (by kernel_rfl),cqz func204 (by kernel_rfl),cqz func246 (by kernel_rfl),cqz func199 (by kernel_rfl),cqz func223 (by kernel_rfl),cqz func167 (by kernel_rfl),underlying0,isAgg0,sizeOf0,zeroValue0,underlying3,isAgg3,sizeOf3,zeroValue3,underlying4,isAgg4,sizeOf4,zeroValue4,underlying5,isAgg5,sizeOf5,zeroValue5,underlying9,isAgg9,sizeOf9,zeroValue9,underlying21,isAgg21,sizeOf21,zeroValue21,underlying184,isAgg184,sizeOf184,zeroValue184,underlying261,isAgg261,sizeOf261,underlying262,isAgg262,sizeOf262,zeroValue262,underlying265,isAgg265,sizeOf265,zeroValue265⟩
open Go.RowKit Go.Lib in
theorem Tryz.strings_ContainsAny(hv116:∀w,(zeroValue 261).run prog w=.ok (.agg (Array.replicate 256 (.bool false))) w)(s chars:ByteArray)(w:World)(hs:s.size < 4294967281)(hcs:chars.size < 4294967281)(has:∀(j:Nat) b,s.data.toList[j]? =some b->b.toNat < 128)(hac:∀(j:Nat) b,chars.data.toList[j]? =some b->b.toNat < 128):
 Calls prog 208 #[.string s,.string chars] w fun e w' =>e=.returned (.bool (Lib.containsAny s.data.toList chars.data.toList))/\Below w.heap.size w w' :=Any.strings_ContainsAny Tryz.lays150 hv116 (by kernel_rfl) s chars w hs hcs has hac
def Tryz.lays105_ren:Go.Shelf.Ren:=⟨fun | 105=>100 | 212=>132 | 99=>113 | 165=>101 | 166=>102 | 170=>133 | 169=>103 | 263=>170 | 264=>171 | 206=>147 | 240=>134 | 241=>135 | 276=>172 | 277=>173 | n=>n,fun | 9=>9 | 3=>3 | 4=>4 | 20=>20 | 0=>0 | 46=>184 | 109=>185 | 5=>5 | 72=>152 | 76=>156 | 51=>212 | 146=>213 | 53=>190 | 148=>215 | 70=>150 | 37=>24 | 75=>155 | 127=>188 | 164=>217 | 80=>158 | n=>n,fun | n=>n⟩
theorem Tryz.lays105:Go.Proofs.Lays.n105 prog Tryz.lays105_ren:=⟨by kernel_rfl,cqz func113 (by kernel_rfl),cqz func100 (by kernel_rfl),cqz func101 (by kernel_rfl),cqz func102 (by kernel_rfl),cqz func103 (by kernel_rfl),cqz func133 (by kernel_rfl),cqz func147 (by kernel_rfl),cqz func132 (by kernel_rfl),cqz func134 (by kernel_rfl),cqz func135 (by kernel_rfl),cqz func170 (by kernel_rfl),cqz func171 (by kernel_rfl),cqz func172 (by kernel_rfl),cqz func173 (by kernel_rfl),underlying0,isAgg0,sizeOf0,zeroValue0,underlying3,isAgg3,sizeOf3,zeroValue3,underlying4,isAgg4,sizeOf4,zeroValue4,underlying5,isAgg5,sizeOf5,zeroValue5,underlying9,isAgg9,sizeOf9,zeroValue9,underlying20,isAgg20,sizeOf20,zeroValue20,underlying24,isAgg24,sizeOf24,zeroValue24,underlying184,isAgg184,sizeOf184,zeroValue184,underlying212,isAgg212,sizeOf212,zeroValue212,underlying190,isAgg190,sizeOf190,zeroValue190,underlying150,isAgg150,sizeOf150,zeroValue150,underlying152,isAgg152,sizeOf152,zeroValue152,underlying155,isAgg155,sizeOf155,zeroValue155,underlying156,isAgg156,sizeOf156,zeroValue156,underlying185,isAgg185,sizeOf185,zeroValue185,underlying188,isAgg188,sizeOf188,zeroValue188,underlying213,isAgg213,sizeOf213,zeroValue213,underlying215,isAgg215,sizeOf215,zeroValue215,underlying217,isAgg217,sizeOf217,zeroValue217⟩
theorem Tryz.Builder_Extra_105:Builder.Extra prog Tryz.lays105_ren:={
 sizeBuilder:=by kernel_rfl
 liesBuilder:=by kernel_rfl
 t5:=underlying5
 a5:=isAgg5
 z5:=sizeOf5
 v5:=zeroValue5
 infoByte:=by kernel_rfl
 cellsByte:=by kernel_rfl
 sizeByte:=by kernel_rfl
 neB5:=by decide}
open Go.RowKit Go.Lib in
theorem Tryz.strings_Repeat(s:ByteArray)(c:Nat)(w:World)(hc:c<=9223372036854775807)(hlen:s.size * c<=140737488355328):
 Calls prog 100 #[.string s,.int .i64 c] w fun e w' =>e=.returned (.string ⟨(Lib.repeatL s.data.toList c).toArray⟩)/\Below w.heap.size w w' :=Any.strings_Repeat Tryz.lays105 Tryz.Builder_Extra_105 s c w hc hlen
def Tryz.lays185_ren:Go.Shelf.Ren:=⟨fun | 185=>146 | 187=>181 | 115=>84 | 253=>182 | 224=>183 | 254=>184 | 255=>209 | 291=>210 | n=>n,fun | 37=>24 | 3=>3 | 4=>4 | 0=>0 | 5=>5 | 46=>184 | 9=>9 | 146=>213 | 51=>212 | n=>n,fun | 1=>1 | n=>n⟩
theorem Tryz.lays185:Go.Proofs.Lays.n185 prog Tryz.lays185_ren:=⟨by kernel_rfl,cqz func84 (by kernel_rfl),cqz func146 (by kernel_rfl),cqz func181 (by kernel_rfl),cqz func183 (by kernel_rfl),cqz func182 (by kernel_rfl),cqz func184 (by kernel_rfl),cqz func209 (by kernel_rfl),cqz func210 (by kernel_rfl),underlying0,isAgg0,sizeOf0,zeroValue0,underlying3,isAgg3,sizeOf3,zeroValue3,underlying4,isAgg4,sizeOf4,zeroValue4,underlying5,isAgg5,sizeOf5,zeroValue5,underlying9,isAgg9,sizeOf9,zeroValue9,underlying24,isAgg24,sizeOf24,zeroValue24,underlying184,isAgg184,sizeOf184,zeroValue184,underlying212,isAgg212,sizeOf212,zeroValue212,underlying213,isAgg213,sizeOf213,zeroValue213,by kernel_rfl⟩
open Go.RowKit Go.Lib in
theorem Tryz.bytes_Index_longer(p q:Option Addr)(n c m d:Nat)(w:World)(h2:2<=m)(hnm:n < m)(hm:m<=9223372036854775807):
 Calls prog 146 #[.slice p n c,.slice q m d] w fun e w' =>e=.returned (.int .i64 (-1))/\w' =w:=Any.bytes_Index_longer Tryz.lays185 p q n c m d w h2 hnm hm
def Tryz.lays187_ren:Go.Shelf.Ren:=⟨fun | 187=>181 | 255=>209 | n=>n,fun | 37=>24 | 5=>5 | 3=>3 | n=>n,fun | n=>n⟩
theorem Tryz.lays187:Go.Proofs.Lays.n187 prog Tryz.lays187_ren:=⟨by kernel_rfl,cqz func181 (by kernel_rfl),cqz func209 (by kernel_rfl),underlying3,isAgg3,sizeOf3,zeroValue3,underlying5,isAgg5,sizeOf5,zeroValue5,underlying24,isAgg24,sizeOf24,zeroValue24⟩
open Go.RowKit Go.Lib in
theorem Tryz.bytes_IndexByte_at(a:Addr)(n c:Nat)(xs:List Int)(cv:Int)(w:World)(hx:xs.length=n)(hc:∀i,i < n->w.cell? (a.add i)=some (.int .u8 (xs.getD i 0))):
 Calls prog 181 #[.slice (some a) n c,.int .u8 cv] w fun e w' =>e=.returned (.int .i64 (Lib.indexByte (Lib.bytesOf xs) cv.toNat.toUInt8))/\w' =w:=Any.bytes_IndexByte_at Tryz.lays187 a n c xs cv w hx hc
def Tryz.lays115_ren:Go.Shelf.Ren:=⟨fun | 115=>84 | n=>n,fun | 37=>24 | 4=>4 | 9=>9 | 5=>5 | n=>n,fun | n=>n⟩
theorem Tryz.lays115:Go.Proofs.Lays.n115 prog Tryz.lays115_ren:=⟨by kernel_rfl,cqz func84 (by kernel_rfl),underlying4,isAgg4,sizeOf4,zeroValue4,underlying9,isAgg9,sizeOf9,zeroValue9,underlying24,isAgg24,sizeOf24,zeroValue24⟩
open Go.Proofs Go.RowKit Go.Lib in
theorem Tryz.bytes_Index_at(a1 a2:Addr)(n c1 k c2:Nat)(xs ys:List Int)(m:Int)(w:World)(hx:xs.length=n)(hy:ys.length=k)(hr1:∀x∈xs,0<=x/\x < 256)(hr2:∀y∈ys,0<=y/\y < 256)(hc1:∀i,i < n->w.cell? (a1.add i)=some (.int .u8 (xs.getD i 0)))(hc2:∀i,i < k->w.cell? (a2.add i)=some (.int .u8 (ys.getD i 0)))(hcap:n<=c1)(hs:n < 4294967281)(hk:k<=9223372036854775807)(hm:w.cell? ⟨1,0,none⟩=some (.int .i64 m)):
 Calls prog 146 #[.slice (some a1) n c1,.slice (some a2) k c2] w fun e w' =>e=.returned (.int .i64 (Lib.index (Lib.bytesOf xs) (Lib.bytesOf ys)))/\∃q,w' =w.drewN q:=Any.bytes_Index_at Tryz.lays185 a1 a2 n c1 k c2 xs ys m w hx hy hr1 hr2 hc1 hc2 hcap hs hk hm
def Tryz.laysnb117_ren:Go.Shelf.Ren:=⟨fun | 117=>222 | 115=>84 | n=>n,fun | 37=>24 | 4=>4 | 3=>3 | 9=>9 | 5=>5 | n=>n,fun | n=>n⟩
theorem Tryz.laysnb117:Go.Proofs.Lays.nb117 prog Tryz.laysnb117_ren:={mixed:=by kernel_rfl,f115:=cqz func84 (by kernel_rfl),f117:=cqz func222 (by kernel_rfl),t3:=underlying3,a3:=isAgg3,z3:=sizeOf3,v3:=zeroValue3,t4:=underlying4,a4:=isAgg4,z4:=sizeOf4,v4:=zeroValue4,t9:=underlying9,a9:=isAgg9,z9:=sizeOf9,v9:=zeroValue9,t37:=underlying24,a37:=isAgg24,z37:=sizeOf24,v37:=zeroValue24,t5:=underlying5,a5:=isAgg5,z5:=sizeOf5,v5:=zeroValue5}
def Tryz.laysnb140_ren:Go.Shelf.Ren:=⟨fun | 140=>195 | 117=>222 | 115=>84 | n=>n,fun | 37=>24 | 4=>4 | 3=>3 | 9=>9 | 5=>5 | n=>n,fun | n=>n⟩
theorem Tryz.laysnb140:Go.Proofs.Lays.nb140 prog Tryz.laysnb140_ren:={mixed:=by kernel_rfl,f115:=cqz func84 (by kernel_rfl),f117:=cqz func222 (by kernel_rfl),f140:=cqz func195 (by kernel_rfl),t3:=underlying3,a3:=isAgg3,z3:=sizeOf3,v3:=zeroValue3,t4:=underlying4,a4:=isAgg4,z4:=sizeOf4,v4:=zeroValue4,t9:=underlying9,a9:=isAgg9,z9:=sizeOf9,v9:=zeroValue9,t37:=underlying24,a37:=isAgg24,z37:=sizeOf24,v37:=zeroValue24,t5:=underlying5,a5:=isAgg5,z5:=sizeOf5,v5:=zeroValue5}
theorem Tryz.bytes_Equal(v1 v2:Value)(xs ys:List Int)(w:World)(h1:(convert 24 9 v1).run prog w=.ok (.string (strOfNums xs)) w)(h2:(convert 24 9 v2).run prog w=.ok (.string (strOfNums ys)) w):
 Calls prog 84 #[v1,v2] w fun e w' =>e=.returned (.bool (Lib.bytesOf xs==Lib.bytesOf ys))/\w' =w:=Any.bytes_Equal Tryz.lays115 v1 v2 xs ys w h1 h2
theorem Tryz.bytes_HasSuffix(b1 o1 n c b2 o2 m d:Nat)(xs ys:List Int)(w:World)(hx:xs.length=n)(hy:ys.length=m)(hnc:n<=c)(hbig:n<=9223372036854775807)(hc1:∀i,i < n->w.cell? ⟨b1,o1+i,none⟩=some (.int .u8 (xs.getD i 0)))(hc2:∀i,i < m->w.cell? ⟨b2,o2+i,none⟩=some (.int .u8 (ys.getD i 0))):
 Calls prog 222 #[.slice (some ⟨b1,o1,none⟩) n c,.slice (some ⟨b2,o2,none⟩) m d] w fun e w' =>e=.returned (.bool (Lib.hasSuffix (Lib.bytesOf xs) (Lib.bytesOf ys)))/\w' =w:=Any.bytes_HasSuffix Tryz.laysnb117 b1 o1 n c b2 o2 m d xs ys w hx hy hnc hbig hc1 hc2
theorem Tryz.bytes_TrimSuffix(b1 o1 n c b2 o2 m d:Nat)(xs ys:List Int)(w:World)(hx:xs.length=n)(hy:ys.length=m)(hnc:n<=c)(hbig:n<=9223372036854775807)(hc1:∀i,i < n->w.cell? ⟨b1,o1+i,none⟩=some (.int .u8 (xs.getD i 0)))(hc2:∀i,i < m->w.cell? ⟨b2,o2+i,none⟩=some (.int .u8 (ys.getD i 0))):
 Calls prog 195 #[.slice (some ⟨b1,o1,none⟩) n c,.slice (some ⟨b2,o2,none⟩) m d] w fun e w' =>e=.returned (Lib.bytesTrimSuffix b1 o1 n c xs ys)/\w' =w:=Any.bytes_TrimSuffix Tryz.laysnb140 b1 o1 n c b2 o2 m d xs ys w hx hy hnc hbig hc1 hc2
theorem Tryz.bytes_IndexByte(b o n c:Nat)(xs:List Int)(cv:Int)(w:World)(hx:xs.length=n)(hc:∀i,i < n->w.cell? ⟨b,o+i,none⟩=some (.int .u8 (xs.getD i 0))):
 Calls prog 181 #[.slice (some ⟨b,o,none⟩) n c,.int .u8 cv] w fun e w' =>e=.returned (.int .i64 (Lib.indexByte (Lib.bytesOf xs) cv.toNat.toUInt8))/\w' =w:=Any.bytes_IndexByte Tryz.lays187 b o n c xs cv w hx hc
theorem Tryz.bytes_IndexByte_nil(cv:Int)(w:World):
 Calls prog 181 #[.slice none 0 0,.int .u8 cv] w fun e w' =>e=.returned (.int .i64 (-1))/\w' =w:=Any.bytes_IndexByte_nil Tryz.lays187 cv w
end Go.Proofs
namespace Go.Proofs.YtpphhgbmooofgaaGreatDoor
open Go.RowKit Go.Proofs.Tryz
theorem z3b(g:G)(q:Nat):Old (fun _=>False) g ⟨g.w.drewN q,g.u,g.loc⟩:=
 ⟨rfl,rfl,rfl,⟨jAt _,fun _ _=>jAt _,fun _ _ _ _=>rfl,fun _ h=>h⟩,fun _ _ _=>⟨rfl,rfl⟩⟩
theorem K8a{g:G}{s:Str}{v:Value}(h:Rel g (.s s) v):v=.string (strB s):=zTa h
theorem zQa(s:Str)(c:UInt8)(r:Int)(hr:zsa s c=some r):Run prog 95 [.s s,.u8 c] (.i r):=by
 unfold zsa at hr;cases hr;refine ⟨⟨_,_,⟨func95,rfl,by kernel_rfl⟩⟩,fun g vs hw hg ha=>?_⟩;obtain ⟨hsz,hrel⟩:=ha;obtain ⟨l⟩:=vs
 match l,hsz with
 | [x,y],_=>
  obtain rfl:=K8a (hrel 0 _ rfl);have e2:y=.int .u8 (c.toNat:Int):=zTa (hrel 1 _ rfl);subst e2;refine callsIn_wide.2 ((Tryz.strings_IndexByte (strB s) (c.toNat:Int) g.w).mono ?_);rintro e w' ⟨rfl,rfl⟩;refine ⟨g,_,rfl,rfl,Old.refl _ g,hw,rfl,?_⟩;simp[strB];exact .pv (.b rfl)
theorem yKa(a0:Int)(r:Bool)(hr:kra a0=some r):Run prog 260 [.pv (.b (.int .i32 a0))] (.bo r):=by
 unfold kra at hr;refine rfx (fn:=Tryz.f260) func260 fun g0 hg=>?_
 refine jq 7 hr [0] [] (fun j1=>[(3,.bo j1)]) (fun _=>[]) (fun j1 hr=>?_) (fun j1 hr=>?_)
 .refine bx 4 6 hr (fun c2 hr=>?_) fun c2 hr=>?_
  .exact jx 5 hr
  exact jx 5 hr
 refine ax 0 3 hr (fun hr=>?_) fun hr=>?_
 .exact kx 8 hr
 refine jq 0 hr [] [] (fun j4=>[(10,.bo j4)]) (fun _=>[]) (fun j4 hr=>?_) (fun j4 hr=>?_)
 .refine bx 4 13 hr (fun c5 hr=>?_) fun c5 hr=>?_
  .exact jx 5 hr
  exact jx 5 hr
 refine ax 0 10 hr (fun hr=>?_) fun hr=>?_
 .exact kx 8 hr
 exact kx 9 hr
theorem wRa(a0:Str)(a1:Int)(r:Int)(hr:z2a a0 a1=some r):Run prog 244 [.s a0,.pv (.b (.int .i32 a1))] (.i r):=by
 unfold z2a at hr;refine rfx (fn:=Tryz.f244) func244 fun g0 hg=>?_
 refine rn tk 6 rfl<|jb hr (fun j1=>[(0,.s a0),(1,.pv (.b (.int .i32 a1))),(160,.bo j1)]) (fun j1=>[]) (fun j1 hr=>?_) (fun j1 hr=>?_)
 .refine bx 4 163 hr (fun c2 hr=>?_) fun c2 hr=>?_
  .exact jx 5 hr
  exact jx 5 hr
 refine ax 0 160 hr (fun hr=>?_) fun hr=>?_
 .refine clx 5 hr (zQa _ _) fun v4 _ hr=>?_
  exact kx 5 hr
 refine ax 7 171 hr (fun hr=>?_) fun hr=>?_
 .refine rn tk 4 rfl<|wr 1175 tk rfl rfl rfl rfl<|rn tk 3 rfl<|al2 hr (fun s7=>[(175,.ptr 1175 0)]) (fun s7=>[(1175,.it (strB a0) s7)]) (.exit 9) (fun b8=>[]) (fun b8=>[]) .ret (fun b9=>[(4,.i b9)]) (fun b9=>[]) rfl rfl (fun s7 x11 hr=>?_) (fun b8 hr=>?_) (fun b9 hr=>?_)
  .unfold k5a at hr;refine rn tk 2 rfl<|wnx hr rfl rfl rfl (fun c12 hr=>?_) (fun c12 hr=>?_)
   .refine ax 22 181 hr (fun hr=>?_) fun hr=>?_
    .exact ox 8 hr
    exact cx 2 hr
   exact ox 7 hr
  .exact kx 9 hr
  exact kx 3 hr
 refine clx 3 hr (yKa _) fun v14 _ hr=>?_
 refine ax 4 183 hr (fun hr=>?_) fun hr=>?_
 .exact kx 7 hr
 refine rn tk 29 rfl<|al2 hr (fun s17=>[(0,.s a0),(7,.s ((yXa a1))),(8,.i ((w64 ((((yXa a1)).length:Int) - 1)))),(9,.i s17)]) (fun s17=>[]) (.exit 1) (fun b18=>[]) (fun b18=>[]) .ret (fun b19=>[(4,.i b19)]) (fun b19=>[]) rfl rfl (fun s17 x21 hr=>?_) (fun b18 hr=>?_) (fun b19 hr=>?_)
 .unfold k7a at hr;refine ax 9 26 hr (fun hr=>?_) fun hr=>?_
  .refine rn tk 4 rfl<|jk (fun j23=>[(0,.s a0),(7,.s ((yXa a1))),(8,.i j23.1),(9,.i j23.2)]) (fun j23=>[]) (fun j23=>k6a a0 a1 j23=some x21) ?_ ?_
   .refine rn tk 1 rfl ?_;obtain ⟨v24,h25,hr⟩:=zaa hr;obtain ⟨v26,h27,hr⟩:=zaa hr;refine dq 0 6 [] [(2,.u8 v24),(5,.u8 v26)] .nil (.cons rfl rfl (kaa (Vca rfl rfl zya h25)) (.cons rfl rfl (kaa (Vca rfl rfl zya h27)) .nil)) ?_ mixed;refine ax 3 33 hr (fun hr=>?_) fun hr=>?_
    .refine rn tk 1 rfl ?_;obtain ⟨v29,h30,hr⟩:=zaa hr;obtain ⟨v31,h32,hr⟩:=zaa hr;refine dq 0 7 [] [(3,.s v29),(6,.u8 v31)] .nil (.cons rfl rfl (kaa (qtb rfl rfl zya h30)) (.cons rfl rfl (kaa (Vca rfl rfl zya h32)) .nil)) ?_ mixed;refine clx 0 hr (zQa _ _) fun v33 _ hr=>?_
     refine ax 10 43 hr (fun hr=>?_) fun hr=>?_
     .exact ox 10 hr
     refine rn tk 9 rfl<|jn (((w64 ((((yXa a1)).length:Int) - 1)),(w64 (s17+(w64 (v33+1)))))) hr rfl rfl
    refine rn tk 1 rfl<|jn (((w64 ((((yXa a1)).length:Int) - 1)),s17)) hr rfl rfl
   intro j23 hr;unfold k6a at hr;refine rn tk 7 rfl<|al1 hr (fun s36=>[(0,.s a0),(7,.s ((yXa a1))),(8,.i j23.1),(9,.i j23.2),(12,.i s36)]) (fun s36=>[]) (.exit 3) (fun b37=>[(8,.i j23.1),(9,.i j23.2)]) (fun b37=>[]) rfl rfl (fun s36 x38 hr=>?_) (fun b37 hr=>?_)
   .unfold w5a at hr;refine ax 9 51 hr (fun hr=>?_) fun hr=>?_
    .refine rn tk 5 rfl ?_;obtain ⟨v40,h41,hr⟩:=zaa hr;obtain ⟨v42,h43,hr⟩:=zaa hr;refine dq 0 10 [] [(4,.u8 v40),(9,.u8 v42)] .nil (.cons rfl rfl (kaa (Vca rfl rfl zya h41)) (.cons rfl rfl (kaa (Vca rfl rfl zya h43)) .nil)) ?_ mixed;refine ax 3 64 hr (fun hr=>?_) fun hr=>?_
     .cases hr
     exact cx 8 hr
    exact ox 2 hr
   exact ox 15 hr
  exact ox 2 hr
 .exact kx 12 hr
 exact kx 4 hr
theorem w2a(a0:Int)(r:Bool)(hr:zza a0=some r):Run prog 246 [.i a0] (.bo r):=by
 unfold zza at hr;refine rfx (fn:=Tryz.f246) func246 fun g0 hg=>?_
 exact kx 13 hr
theorem ZHa(a0:Str)(a1:Str)(r:Int)(hr:q5a a0 a1=some r):Run prog 228 [.s a0,.s a1] (.i r):=by
 unfold q5a at hr;refine rfx (fn:=Tryz.f228) func228 fun g0 hg=>?_
 refine ax 12 12 hr (fun hr=>?_) fun hr=>?_
 .exact kx 7 hr
 refine ax 10 15 hr (fun hr=>?_) fun hr=>?_
 .refine rn tk 3 rfl ?_;obtain ⟨v3,h4,hr⟩:=zaa hr;refine ws tk h4 rfl rfl rfl rfl<|wur tk rfl rfl rfl<|rn tk 3 rfl<|jb hr (fun j5=>[(0,.s a0),(5,.pv (.b (.int .i32 j5)))]) (fun j5=>[]) (fun j5 hr=>?_) (fun j5 hr=>?_)
  .refine ax 6 20 hr (fun hr=>?_) fun hr=>?_
   .exact jx 3 hr
   exact jx 1 hr
  refine clx 4 hr (wRa _ _) fun v7 _ hr=>?_
  exact kx 5 hr
 refine clx 7 hr (w2a _) fun v9 _ hr=>?_
 refine ax 2 26 hr (fun hr=>?_) fun hr=>?_
 .refine rn tk 3 rfl ?_;cases hr
 refine rn tk 6 rfl<|wr 1045 tk rfl rfl rfl rfl<|rn tk 3 rfl<|al2 hr (fun s12=>[(1,.s a1),(45,.ptr 1045 0)]) (fun s12=>[(1045,.it (strB a0) s12)]) (.exit 2) (fun b13=>[]) (fun b13=>[]) .ret (fun b14=>[(4,.i b14)]) (fun b14=>[]) rfl rfl (fun s12 x16 hr=>?_) (fun b13 hr=>?_) (fun b14 hr=>?_)
 .unfold k8a at hr;refine rn tk 2 rfl<|wnx hr rfl rfl rfl (fun c17 hr=>?_) (fun c17 hr=>?_)
  .refine clx 20 hr (wRa _ _) fun v18 _ hr=>?_
   refine ax 3 53 hr (fun hr=>?_) fun hr=>?_
   .exact ox 8 hr
   exact cx 2 hr
  exact ox 7 hr
 .exact kx 8 hr
 exact kx 2 hr
theorem Y3a(g:G)(vs:Array Value)(t:TypeId):Old (fun _=>False) g ⟨g.w.alloc (.cells vs t),fun k=>if k=g.w.heap.size then 0 else g.u k,g.loc⟩:=by
 have h:=jba g vs t 0 0 (g.loc 0);have e:(g.alloc vs t 0 0 (g.loc 0))=⟨g.w.alloc (.cells vs t),fun k=>if k=g.w.heap.size then 0 else g.u k,g.loc⟩:=by
  unfold G.alloc
  congr 1
  funext k;split
  .rename_i hk;rw[hk]
  rfl
 rw[<-e];exact h
theorem z4b{g:G}(h:Wf g)(vs:Array Value)(t:TypeId):Wf ⟨g.w.alloc (.cells vs t),fun k=>if k=g.w.heap.size then 0 else g.u k,g.loc⟩:=by
 intro k hk;have hk:g.w.heap.size+1<=k:=by simpa using hk
 show (if k=g.w.heap.size then 0 else g.u k)=0;rw[if_neg (by omega)];exact h k (by omega)
theorem vLb{t:Str}(h:YOa t=true):∀(j:Nat) b,(strB t).data.toList[j]? =some b->b.toNat < 128:=fun j b hb=>YTa h (jAg hb)
theorem Kqa(s t:Str)(r:Int)(hr:kQa s t=some r):Run prog 228 [.s s,.s t] (.i r):=by
 unfold kQa at hr;split at hr
 case isFalse=>cases hr
 rename_i hc;obtain ⟨h1,h2,h3,h4⟩:=hc;by_cases h8:s.length<=8
 .exact ZHa s t r (by rw[zLb s t h8 h3 h2 h4];exact hr)
 cases hr;refine ⟨⟨_,_,⟨func228,rfl,by kernel_rfl⟩⟩,fun g vs hw hg ha=>?_⟩;obtain ⟨hsz,hrel⟩:=ha;obtain ⟨l⟩:=vs
 match l,hsz with
 | [x,y],_=>
  obtain rfl:=K8a (hrel 0 _ rfl);obtain rfl:=K8a (hrel 1 _ rfl);have h116:(prog.info? 261).map (fun i=>(i.zero,i.size))=some (some (.agg (Array.replicate 256 (.bool false))),256):=by kernel_rfl
  have hz:=(zero_of_info h116).1;refine callsIn_wide.2 ((Tryz.strings_IndexAny_long hz (strB s) (strB t) g.w (by rw[zwa];exact h3) (by rw[zwa];omega) (by rw[zwa];exact h1) (by rw[zwa];exact h2) (vLb h4)).mono ?_);rintro e w' ⟨rfl,rfl⟩;have o1:=Y3a g (Lib.setCells t) 261;have w1:=z4b hw (Lib.setCells t) 261;have o2:=Y3a ⟨g.w.alloc (.cells (Lib.setCells t) 261),fun k=>if k=g.w.heap.size then 0 else g.u k,g.loc⟩ (Lib.setCells t) 261;have w2:=z4b w1 (Lib.setCells t) 261;have o3:Old (fun _=>False) g _:=o1.trans (o2.mono (S' :=fun b=>False∨g.w.heap.size<=b) (by intro b _ hf;exact hf.elim));exact ⟨⟨_,_,_⟩,_,rfl,(by rfl),o3,w2,(by rfl),.pv (.b rfl)⟩
theorem jXa(a0:Str)(a1:Str)(r:Bool)(hr:z1a a0 a1=some r):Run prog 208 [.s a0,.s a1] (.bo r):=by
 unfold z1a at hr;refine rfx (fn:=f208) func208 fun g0 hg=>?_
 refine clx 9 hr (Kqa _ _) fun v1 _ hr=>?_
 exact kx 5 hr
theorem J0a(a0:Str)(r:Bool)(hr:Zva a0=some r):Run prog 180 [.s a0] (.bo r):=by
 unfold Zva at hr;refine rfx (fn:=f180) func180 fun g0 hg=>?_
 refine clx 8 hr (jXa _ _) fun v1 _ hr=>?_
 exact kx 4 hr
theorem Yva(a0:Str)(r:Bool)(hr:jja a0=some r):Run prog 141 [.s a0] (.bo r):=by
 unfold jja at hr;refine rfx (fn:=f141) func141 fun g0 hg=>?_
 refine jq 5 hr [] [] (fun j1=>[(2,.bo j1)]) (fun _=>[]) (fun j1 hr=>?_) (fun j1 hr=>?_)
 .refine clx 2 hr (J0a _) fun v2 _ hr=>?_
  refine bx 2 6 hr (fun c4 hr=>?_) fun c4 hr=>?_
  .refine bx 3 9 hr (fun c5 hr=>?_) fun c5 hr=>?_
   .exact jx 17 hr
   refine rn tk 1 rfl ?_;obtain ⟨v6,h7,hr⟩:=zaa hr;refine ug rfl rfl rfl<|ws tk h7 rfl rfl rfl rfl ?_;obtain ⟨v8,h9,hr⟩:=zaa hr;refine ug rfl rfl rfl<|cl (q2a _ _ h9) rfl rfl ?_;refine bx 2 14 hr (fun c10 hr=>?_) fun c10 hr=>?_
   .refine rn tk 4 rfl ?_;obtain ⟨v11,h12,hr⟩:=zaa hr;refine ug rfl rfl rfl<|ws tk h12 rfl rfl rfl rfl ?_;obtain ⟨v13,h14,hr⟩:=zaa hr;refine ug rfl rfl rfl<|cl (q2a _ _ h14) rfl rfl ?_;exact jx 6 hr
   exact jx 12 hr
  exact jx 20 hr
 exact kx 1 hr
theorem yea(a0:Str)(a1:Str)(r:(List Str) × zma)(hr:wJa a0 a1=some r):Run prog 105 [.s a0,.s a1] (.tup [.l cS r.1,.agg [.i r.2.Code,.i r.2.Index]]):=by
 unfold wJa at hr;refine rfx (fn:=Tryz.f105) func105 fun g0 hg=>?_
 refine clx 11 hr (JZa _) fun v1 _ hr=>?_
 refine ax 4 12 hr (fun hr=>?_) fun hr=>?_
 .refine clx 2 hr (zga _ _) fun v4 _ hr=>?_
  exact kx 7 hr
 refine ax 8 17 hr (fun hr=>?_) fun hr=>?_
 .refine clx 2 hr (zga _ _) fun v7 _ hr=>?_
  exact kx 7 hr
 refine clx 3 hr (Yva _) fun v9 _ hr=>?_
 refine ax 4 22 hr (fun hr=>?_) fun hr=>?_
 .refine clx 2 hr (zga _ _) fun v12 _ hr=>?_
  exact kx 7 hr
 refine rn tk 6 rfl ?_;obtain ⟨v14,h15,hr⟩:=zaa hr;refine wc h15 rfl rfl rfl<|rn tk 1 rfl ?_;obtain ⟨v16,h17,hr⟩:=zaa hr;refine wc h17 rfl rfl rfl<|rn tk 10 rfl ?_;refine kwa 1008 (d:=8) 9 1 rfl rfl rfl (hO ?_);refine aq1 4 hr [5,8] [5] (fun s18=>[(6,.s s18.1),(7,.i s18.2.1)]) (fun s18=>[(1008,.row 9 false 1 (List.map cS s18.2.2))]) (.exit 1) [5,8] [5] (fun b19=>[(6,.s b19.1)]) (fun b19=>[(1008,.row 9 false 1 (List.map cS b19.2))]) (fun s18 x20 hr=>?_) (fun b19 hr=>?_)
 .unfold wIa at hr;refine ax 8 36 hr (fun hr=>?_) fun hr=>?_
  .refine clx 7 hr (Yua _ _) fun v22 _ hr=>?_
   refine ax 10 41 hr (fun hr=>?_) fun hr=>?_
   .exact ox 3 hr
   refine rn tk 7 rfl ?_;obtain ⟨v25,h26,hr⟩:=zaa hr;refine wscH tk h26 rfl rfl rfl rfl<|wz cS ([v25]:List Str) tk rfl rfl (fun _=>rfl) rfl rfl rfl ?_;obtain ⟨v27,h28,hr⟩:=zaa hr;refine wa tk h28 rfl rfl rfl rfl (fun _=>rfl) rfl rfl<|rn tk 6 rfl ?_;obtain ⟨v29,h30,hr⟩:=zaa hr;refine wscL tk h30 rfl rfl rfl rfl ?_;exact cx 4 hr
  exact ox 2 hr
 refine rn tk 6 rfl<|wz cS ([b19.1]:List Str) tk rfl rfl (fun _=>rfl) rfl rfl rfl ?_;obtain ⟨v31,h32,hr⟩:=zaa hr;refine wa tk h32 rfl rfl rfl rfl (fun _=>rfl) rfl rfl<|rn tk 7 rfl<|wnh tk rfl rfl rfl rfl<|rn tk 4 rfl ?_;refine qma (d:=55) (F:=cS) (l:=v31) rfl rfl (hC ?_);refine aq2 0 hr [5,8,55,56] [1008,5] (fun s34=>[(57,.i s34)]) (fun _=>[]) (.exit 3) [5,8] [1008,5] (fun _=>[]) (fun _=>[]) .ret [5] [] (fun b36=>[(4,.l cS b36.1)]) (fun b36=>[(5,.cells [.i b36.2.Code,.i b36.2.Index])]) (fun s34 x38 hr=>?_) (fun b35 hr=>?_) (fun b36 hr=>?_)
 .unfold ySa at hr;refine ax 6 58 hr (fun hr=>?_) fun hr=>?_
  .refine rn tk 7 rfl ?_;obtain ⟨v40,h41,hr⟩:=zaa hr;refine wi tk h41 rfl rfl rfl rfl rfl ?_;refine ax 12 64 hr (fun hr=>?_) fun hr=>?_
   .refine clx 3 hr (zga _ _) fun v43 _ hr=>?_
    exact ox 7 hr
   exact cx 7 hr
  exact ox 2 hr
 .refine clx 5 hr zna fun v45 _ hr=>?_
  refine rn tk 4 rfl ?_;refine qma (d:=4) (F:=cS) (l:=v31) rfl rfl (hC ?_);exact kx 1 hr
 exact kx 2 hr
theorem qxa(a0:List zca)(r:zma)(hr:kda a0=some r):Run prog 80 [.l zca.pc a0] (.agg [.i r.Code,.i r.Index]):=by
 unfold kda at hr;refine rfx (fn:=f80) func80 fun g0 hg=>?_
 refine rn tk 9 rfl<|wn tk rfl rfl rfl ?_;refine ax 3 9 hr (fun hr=>?_) fun hr=>?_
 .refine clx 2 hr (zga _ _) fun v2 _ hr=>?_
  exact kx 5 hr
 refine rn tk 6 rfl<|wn tk rfl rfl rfl ?_;refine aq2 4 hr [2,11,12] [2] (fun s4=>[(13,.i s4)]) (fun _=>[]) (.exit 0) [2] [2] (fun _=>[]) (fun _=>[]) .ret [2] [] (fun _=>[]) (fun b6=>[(2,.cells [.i b6.Code,.i b6.Index])]) (fun s4 x8 hr=>?_) (fun b5 hr=>?_) (fun b6 hr=>?_)
 .unfold qOa at hr;refine ax 6 14 hr (fun hr=>?_) fun hr=>?_
  .refine rn tk 7 rfl ?_;obtain ⟨v10,h11,hr⟩:=zaa hr;refine wi tk h11 rfl rfl rfl rfl rfl ?_;refine clx 12 hr (yea _ _) fun v12 _ hr=>?_
   refine clx 11 hr (zha _) fun v14 _ hr=>?_
   refine ax 2 27 hr (fun hr=>?_) fun hr=>?_
   .refine clx 5 hr (zga _ _) fun v17 _ hr=>?_
    exact ox 6 hr
   exact cx 7 hr
  exact ox 2 hr
 .refine clx 4 hr zna fun v19 _ hr=>?_
  exact kx 4 hr
 exact kx 2 hr
theorem y9a(a0:List UInt8)(r:Int)(hr:wka a0=some r):Run prog 109 [.l cU a0] (.i r):=by
 unfold wka at hr;refine rfx (fn:=f109) func109 fun g0 hg=>?_
 refine aq2 17 hr [0] [] (fun s1=>[(3,.i s1.1),(4,.i s1.2)]) (fun _=>[]) (.exit 0) [] [] (fun _=>[]) (fun _=>[]) .ret [] [] (fun b3=>[(2,.i b3)]) (fun _=>[]) (fun s1 x5 hr=>?_) (fun b2 hr=>?_) (fun b3 hr=>?_)
 .unfold q6a at hr;refine rn tk 5 rfl<|wn tk rfl rfl rfl ?_;refine ax 3 9 hr (fun hr=>?_) fun hr=>?_
  .refine jkq 2 [0] [] (fun j7=>[(3,.i j7.1),(4,.i j7.2)]) (fun _=>[]) (fun j7=>vUa j7=some x5) ?_ ?_
   .refine rn tk 5 rfl ?_;obtain ⟨v8,h9,hr⟩:=zaa hr;refine wi tk h9 rfl rfl rfl rfl rfl ?_;refine jq 5 hr [0,3,4,5] [] (fun j10=>[(32,.bo j10)]) (fun _=>[]) (fun j10 hr=>?_) (fun j10 hr=>?_)
    .refine bx 4 18 hr (fun c11 hr=>?_) fun c11 hr=>?_
     .refine rn tk 3 rfl<|ug rfl rfl rfl<|wn tk rfl rfl rfl ?_;refine bx 3 25 hr (fun c12 hr=>?_) fun c12 hr=>?_
      .refine rn tk 3 rfl ?_;obtain ⟨v13,h14,hr⟩:=zaa hr;refine ug rfl rfl rfl<|wi tk h14 rfl rfl rfl rfl rfl ?_;exact jx 4 hr
      exact jx 8 hr
     exact jx 15 hr
    refine ax 0 32 hr (fun hr=>?_) fun hr=>?_
    .refine rn tk 15 rfl<|jn ((0,(w64 (s1.2+1)))) hr rfl rfl
    refine jq 3 hr [0,3,4] [] (fun j16=>[(40,.bo j16)]) (fun _=>[]) (fun j16 hr=>?_) (fun j16 hr=>?_)
    .refine bx 4 37 hr (fun c17 hr=>?_) fun c17 hr=>?_
     .exact jx 4 hr
     exact jx 4 hr
    refine ax 0 40 hr (fun hr=>?_) fun hr=>?_
    .exact ox 9 hr
    refine ax 15 44 hr (fun hr=>?_) fun hr=>?_
    .exact ox 8 hr
    refine rn tk 2 rfl<|jn (((w64 (s1.1+1)),s1.2)) hr rfl rfl
   intro j7 hr;unfold vUa at hr;exact cx 5 hr
  exact ox 2 hr
 .exact kx 8 hr
 exact kx 2 hr
theorem V7a(a0:List UInt8)(r:zma)(hr:wKa a0=some r):Run prog 81 [.l cU a0] (.agg [.i r.Code,.i r.Index]):=by
 unfold wKa at hr;refine rfx (fn:=f81) func81 fun g0 hg=>?_
 refine clx 9 hr (y9a _) fun v1 _ hr=>?_
 refine ax 9 5 hr (fun hr=>?_) fun hr=>?_
 .refine clx 2 hr (zga _ _) fun v4 _ hr=>?_
  exact kx 6 hr
 refine ax 6 8 hr (fun hr=>?_) fun hr=>?_
 .refine clx 2 hr (zga _ _) fun v7 _ hr=>?_
  exact kx 6 hr
 refine clx 5 hr zna fun v9 _ hr=>?_
 exact kx 4 hr
section
open Go.RowKit Go.Lib Go.Proofs.Tryz
variable {E:Env} {T:Tab} {fr:Fr} {σ:Sto} {k:KS} {l:List Oper} {cs:List (Option AV)} {all:List Node} {H:List Bool} {K:Post} {g:GS}
abbrev HvF:=Fr->Sto->Fr × Sto
def hget:List (Nat × HvF)->Nat->Option HvF
 | [],_=>none
 | (k,c)::r,i=>bif Nat.beq k i then some c else hget r i
def mrun(T:Tab)(tl:List (Nat × AV))(hl:List (Nat × HvF)):List Oper->Nat->Fr->Sto->Option (List (Option AV))
 | [],_,_,_=>some []
 | o::r,i,fr,σ=>match hget hl i with
  | some F=>(match F fr σ with | (f',s')=>(match mrun T tl hl r (i+1) f' s' with | some cs=>some (none::cs) | none=>none))
  | none=>(match o.dst with
   | none=>none
   | some d=>(match (match tget tl i with | some c=>some c | none=>qval T fr.ev σ o.op) with
    | some c=>(match mrun T tl hl r (i+1) ((d,c)::fr) σ with | some cs=>some (some c::cs) | none=>none)
    | none=>none))
def runH(hl:List (Nat × HvF)):List Nat->Fr->Sto->Option (Fr × Sto)
 | [],f,s=>some (f,s)
 | i::r,f,s=>match hget hl i with
  | some F=>(match F f s with | (f',s')=>runH hl r f' s')
  | none=>none
def ndsF(n:Nat)(hl:List (Nat × HvF))(fr:Fr)(σ:Sto):List (List Nat)->Option (List Node)
 | []=>some []
 | h::r=>match runH hl h fr σ with
  | some (f,s)=>(match ndsF n hl fr σ r with | some x=>some (((List.range n).map h.contains,f,s)::x) | none=>none)
  | none=>none
theorem mh(n:Nat){id:Nat}(tl:List (Nat × AV))(hl:List (Nat × HvF))(Hs:List (List Nat))(h:Zma E l cs (k.post E) all all)
 (hmix:E.P.follows .mixedOrders=true) (hT:zEa E.P T:=by exact tk) (hg:GS.run T E.N n g=some (.code (.region id l.toArray true) fr σ k):=by exact rfl) (hz:mrun T tl hl l 0 fr σ=some cs:=by exact rfl) (hn:ndsF l.length hl fr σ Hs=some all:=by exact rfl)
 (hok:(qEb E.N l cs,all[0]?)=(true,some (List.replicate l.length false,fr,σ)):=by kernel_rfl):g.holds E:=
 rn hT n hg (YLa cs all hmix (congrArg Prod.fst hok) (congrArg Prod.snd hok) rfl kEa qoa h)
theorem mfq(hT:zEa E.P T)(is ks:List Nat){frJ:Fr}(h2:vga E l cs all H fr σ is)(h:K .normal frJ σ)(h1:((Zoa l cs H is).map (JGa T l cs fr σ),(Zoa l cs H is).all (fun i=>(Kma cs i).isSome))=((Zoa l cs H is).map (Kma cs),true):=by kernel_rfl)(hf:(purL l cs fr).px ks=some frJ:=by exact rfl):JFa E l cs K all (H,fr,σ):=
 mf hT is frJ h1 h2 (Fr.px_ok hf).1 h
theorem mnq(hT:zEa E.P T)(is:List Nat)(h2:vga E l cs all H fr σ is)(h1:(((List.range l.length).all fun i=> !(isHv cs i) || H.getD i false),(Zoa l cs H is).map (JGa T l cs fr σ),(Zoa l cs H is).all (fun i=>(Kma cs i).isSome))=(false,(Zoa l cs H is).map (Kma cs),true):=by kernel_rfl):JFa E l cs K all (H,fr,σ):=mn hT is h1 h2
theorem mdtq(j:Nat){i k:Nat}{o:Oper}{c:AV}{rs:List Nat}{σ' :Sto}(h:HvD E o (purF l cs (allT l)++fr) σ k c rs σ')(ho:l[i]? =some o:=by exact rfl)(e:(((List.range l.length).all fun i=>yba l cs i !=some k),qDb cs rs,cs[i]?,all[j]?)=(true,true,some none,some (H.set i true,(k,c)::fr.clrs rs,σ')):=by kernel_rfl):kSb E l cs all H fr σ i:=mdt j ho h e
theorem mpu{i:Nat}{o:Oper}{c:AV}(h:OpG E o (purF l cs (allT l)++fr) σ c)(ho:l[i]? =some o:=by exact rfl)(hc:cs[i]? =some (some c):=by exact rfl):kSb E l cs all H fr σ i:=.pure ho hc h
end
theorem jBa(a0:zda)(r:List UInt8)(hr:qta a0=some r):Run prog 70 [.agg [.l zca.pc a0.Fields,.l cU a0.Body]] (.l cU r):=by
 unfold qta at hr;refine rfx (fn:=f70) func70 fun g0 hg=>?_
 refine rn tk 9 rfl ?_;refine kwa 1003 (d:=3) 5 1 rfl rfl rfl (hO ?_);refine rn tk 7 rfl<|wn tk rfl rfl rfl ?_;refine aq1 4 hr [1,3,11,12] [1] (fun s1=>[(13,.i s1.1)]) (fun s1=>[(1003,.row 5 false 1 (List.map cU s1.2))]) (.exit 0) [1,3] [1] (fun _=>[]) (fun b2=>[(1003,.row 5 false 1 (List.map cU b2))]) (fun s1 x3 hr=>?_) (fun b2 hr=>?_)
 .unfold qBa at hr;refine ax 6 14 hr (fun hr=>?_) fun hr=>?_
  .refine rn tk 6 rfl ?_;obtain ⟨v5,h6,hr⟩:=zaa hr;refine wi tk h6 rfl rfl rfl rfl rfl ?_;refine clx 11 hr (yea _ _) fun v7 _ hr=>?_
   refine rn tk 11 rfl<|wn tk rfl rfl rfl ?_;refine aq1 4 hr [1,3,11,12,13,25,26] [1] (fun s9=>[(27,.i s9.1)]) (fun s9=>[(1003,.row 5 false 1 (List.map cU s9.2))]) (.exit 2) [1,3,11,12,13] [1] (fun _=>[]) (fun b10=>[(1003,.row 5 false 1 (List.map cU b10))]) (fun s9 x11 hr=>?_) (fun b10 hr=>?_)
   .unfold qAa at hr;refine ax 6 28 hr (fun hr=>?_) fun hr=>?_
    .refine rn tk 6 rfl ?_;obtain ⟨v13,h14,hr⟩:=zaa hr;refine wi tk h14 rfl rfl rfl rfl rfl<|rn tk 7 rfl ?_;obtain ⟨v15,h16,hr⟩:=zaa hr;refine wo (wAa (k:=33) (l:=s9.2) (s:=v13) (lim:=140737488355328) rfl rfl rfl rfl zra zya.u zJa rfl h16) rfl<|wz cU ([(13:UInt8),(10:UInt8)]:List UInt8) tk rfl rfl (fun _=>rfl) rfl rfl rfl ?_;obtain ⟨v17,h18,hr⟩:=zaa hr;refine wa tk h18 rfl rfl rfl rfl (fun _=>rfl) rfl rfl ?_;exact cx 8 hr
    exact ox 2 hr
   exact cx 7 hr
  exact ox 2 hr
 refine rn tk 3 rfl ?_;obtain ⟨v19,h20,hr⟩:=zaa hr;obtain ⟨v21,h22,hr⟩:=zaa hr;refine mh 0 [(1,.l cU (([(13:UInt8),(10:UInt8)]:List UInt8)))] [(0,fun f s=>((38,.hs 1003 0)::f,s)),(2,fun f s=>((40,.hs 1003 0)::Fr.clrs [1003] f,(Sto.upd (Sto.clr 1003 s) 1003 (.row 5 false 1 (List.map cU v19))))),(5,fun f s=>((43,.hs 1003 0)::Fr.clrs [1003] f,(Sto.upd (Sto.clr 1003 s) 1003 (.row 5 false 1 (List.map cU v21))))),(6,fun f s=>((2,.hs 1003 0)::f,s))] [[],[0],[0,2],[0,2,5],[0,2,5,6]] ?_ mixed;refine .cons (mnq tk [0,1] (.cons (mdtq 1 (hv_g rfl rfl (mqz tk rfl))) (.cons (mpu (KXa (F:=cU) (l:=([(13:UInt8),(10:UInt8)]:List UInt8)) zra zJa rfl (fun _=>rfl) rfl rfl)) .nil))) (.cons (mnq tk [1,2] (.cons (mpu (KXa (F:=cU) (l:=([(13:UInt8),(10:UInt8)]:List UInt8)) zra zJa rfl (fun _=>rfl) rfl rfl)) (.cons (mdtq 2 (zub (F:=cU) (l:=b2) (xs:=(([(13:UInt8),(10:UInt8)]:List UInt8))) (lim:=140737488355328) rfl rfl rfl rfl zra zJa rfl rfl (fun _=>rfl) rfl h20)) .nil))) (.cons (mnq tk [5] (.cons (mdtq 3 (zub (F:=cU) (l:=v19) (xs:=a0.Body) (lim:=140737488355328) rfl rfl rfl rfl zra zJa rfl rfl (fun _=>rfl) rfl h22)) .nil)) (.cons (mnq tk [6] (.cons (mdtq 4 (hv_g rfl rfl (mqz tk rfl))) .nil)) (.cons (mfq tk [] [2] .nil (hA ?_)) .nil))));refine rn tk 1 rfl ?_;refine qma (d:=2) (F:=cU) (l:=v21) rfl rfl (hC ?_);exact kx 1 hr
theorem kka(a0:zda)(r:zma)(hr:zGa a0=some r):Run prog 47 [.agg [.l zca.pc a0.Fields,.l cU a0.Body]] (.agg [.i r.Code,.i r.Index]):=by
 unfold zGa at hr;refine rfx (fn:=f47) func47 fun g0 hg=>?_
 refine clx 11 hr (qxa _) fun v1 _ hr=>?_
 refine clx 7 hr (zha _) fun v3 _ hr=>?_
 refine ax 2 8 hr (fun hr=>?_) fun hr=>?_
 .exact kx 8 hr
 refine clx 6 hr (jBa _) fun v6 _ hr=>?_
 refine wn tk rfl rfl rfl ?_;refine ax 3 13 hr (fun hr=>?_) fun hr=>?_
 .refine clx 2 hr (zga _ _) fun v9 _ hr=>?_
  exact kx 5 hr
 refine clx 6 hr (V7a _) fun v11 _ hr=>?_
 exact kx 4 hr
theorem j4a(a0:List zda)(r:zma)(hr:vJa a0=some r):Run prog 29 [.l zda.pc a0] (.agg [.i r.Code,.i r.Index]):=by
 unfold vJa at hr;refine rfx (fn:=f29) func29 fun g0 hg=>?_
 refine jq 6 hr [0,2] [2] (fun j1=>[(13,.bo j1)]) (fun _=>[]) (fun j1 hr=>?_) (fun j1 hr=>?_)
 .refine rn tk 2 rfl<|wn tk rfl rfl rfl ?_;refine bx 2 9 hr (fun c2 hr=>?_) fun c2 hr=>?_
  .exact jx 5 hr
  refine rn tk 1 rfl<|ug rfl rfl rfl<|wn tk rfl rfl rfl ?_;exact jx 3 hr
 refine ax 0 13 hr (fun hr=>?_) fun hr=>?_
 .refine clx 2 hr (zga _ _) fun v4 _ hr=>?_
  exact kx 5 hr
 refine rn tk 6 rfl<|wn tk rfl rfl rfl ?_;refine aq2 4 hr [2,15,16] [2] (fun s6=>[(17,.i s6)]) (fun _=>[]) (.exit 0) [2] [2] (fun _=>[]) (fun _=>[]) .ret [2] [] (fun _=>[]) (fun b8=>[(2,.cells [.i b8.Code,.i b8.Index])]) (fun s6 x10 hr=>?_) (fun b7 hr=>?_) (fun b8 hr=>?_)
 .unfold vYa at hr;refine ax 6 18 hr (fun hr=>?_) fun hr=>?_
  .refine rn tk 7 rfl ?_;obtain ⟨v12,h13,hr⟩:=zaa hr;refine wi tk h13 rfl rfl rfl rfl rfl ?_;refine clx 9 hr (kka _) fun v14 _ hr=>?_
   refine clx 7 hr (zha _) fun v16 _ hr=>?_
   refine ax 2 25 hr (fun hr=>?_) fun hr=>?_
   .refine clx 5 hr (zga _ _) fun v19 _ hr=>?_
    exact ox 6 hr
   exact cx 7 hr
  exact ox 2 hr
 .refine clx 4 hr zna fun v21 _ hr=>?_
  exact kx 4 hr
 exact kx 2 hr
theorem wta(a0:zda)(r:(List UInt8) × zma)(hr:qua a0=some r):Run prog 34 [.agg [.l zca.pc a0.Fields,.l cU a0.Body]] (.tup [.l cU r.1,.agg [.i r.2.Code,.i r.2.Index]]):=by
 unfold qua at hr;refine rfx (fn:=f34) func34 fun g0 hg=>?_
 refine clx 11 hr (kka _) fun v1 _ hr=>?_
 refine clx 7 hr (zha _) fun v3 _ hr=>?_
 refine ax 2 8 hr (fun hr=>?_) fun hr=>?_
 .refine mdq 1 [] [2,3] .nil ?_ mixed;exact kx 3 hr
 refine clx 5 hr (jBa _) fun v6 _ hr=>?_
 refine clx 0 hr zna fun v8 _ hr=>?_
 exact kx 5 hr
theorem QVa(a0:List zda)(a1:Int)(r:(List Int) × zma)(hr:y5a a0 a1=some r):Run prog 24 [.l zda.pc a0,.i a1] (.tup [.l cI r.1,.agg [.i r.2.Code,.i r.2.Index]]):=by
 unfold y5a at hr;refine rfx (fn:=f24) func24 fun g0 hg=>?_
 refine clx 10 hr (j4a _) fun v1 _ hr=>?_
 refine clx 7 hr (zha _) fun v3 _ hr=>?_
 refine ax 2 17 hr (fun hr=>?_) fun hr=>?_
 .refine dq 1 2 [] [] .nil .nil ?_ mixed;exact kx 5 hr
 refine jq 3 hr [0,1,5] [5] (fun j6=>[(24,.bo j6)]) (fun _=>[]) (fun j6 hr=>?_) (fun j6 hr=>?_)
 .refine bx 4 21 hr (fun c7 hr=>?_) fun c7 hr=>?_
  .exact jx 4 hr
  exact jx 4 hr
 refine ax 0 24 hr (fun hr=>?_) fun hr=>?_
 .refine clx 2 hr (zga _ _) fun v9 _ hr=>?_
  exact kx 6 hr
 refine rn tk 5 rfl ?_;refine vza 1007 (d:=7) 3 1 rfl rfl rfl (hO ?_);refine rn tk 11 rfl<|wn tk rfl rfl rfl ?_;refine aq1 4 hr [1,5,7,26,27] [5] (fun s11=>[(8,.i s11.1),(28,.i s11.2.1)]) (fun s11=>[(1007,.row 3 true 1 (List.map cI s11.2.2))]) (.exit 0) [5,7] [5] (fun _=>[]) (fun b12=>[(1007,.row 3 true 1 (List.map cI b12))]) (fun s11 x13 hr=>?_) (fun b12 hr=>?_)
 .unfold jva at hr;refine ax 6 29 hr (fun hr=>?_) fun hr=>?_
  .refine jq 2 hr [1,5,7,26,27,28] [5] (fun j15=>[(8,.i j15.1)]) (fun j15=>[(1007,.row 3 true 1 (List.map cI j15.2))]) (fun j15 hr=>?_) (fun j15 hr=>?_)
   .refine rn tk 3 rfl ?_;obtain ⟨v16,h17,hr⟩:=zaa hr;refine wi tk h17 rfl rfl rfl rfl rfl ?_;refine clx 8 hr (wta _) fun v18 _ hr=>?_
    refine rn tk 12 rfl<|wn tk rfl rfl rfl<|rn tk 8 rfl<|wnh tk rfl rfl rfl rfl ?_;refine jq 4 hr [1,5,7,11,26,27,28] [1007,5] (fun j20=>[(8,.i j20.1),(13,.i j20.2.1),(57,.bo j20.2.2)]) (fun _=>[]) (fun j20 hr=>?_) (fun j20 hr=>?_)
    .refine bx 4 46 hr (fun c21 hr=>?_) fun c21 hr=>?_
     .refine rn tk 2 rfl ?_;obtain ⟨v22,h23,hr⟩:=zaa hr;refine ug rfl rfl rfl<|wih tk h23 rfl rfl rfl rfl rfl ?_;obtain ⟨v24,h25,hr⟩:=zaa hr;refine ug rfl rfl rfl<|wq (Woa (F:=cI) (l:=s11.2.2) (n:=((w64 ((s11.2.2.length:Int) - 1)))) (j:=0) rfl rfl w4a rfl h25 rfl) rfl rfl rfl ?_;refine bx 4 54 hr (fun c26 hr=>?_) fun c26 hr=>?_
      .exact jx 4 hr
      exact jx 4 hr
     exact jx 12 hr
    refine ax 0 57 hr (fun hr=>?_) fun hr=>?_
    .refine rn tk 4 rfl ?_;obtain ⟨v28,h29,hr⟩:=zaa hr;refine wih tk h29 rfl rfl rfl rfl rfl ?_;obtain ⟨v30,h31,hr⟩:=zaa hr;refine wq (Woa (F:=cI) (l:=s11.2.2) (n:=j20.2.1) (j:=0) rfl rfl w4a rfl h31 rfl) rfl rfl rfl<|rn tk 1 rfl ?_;obtain ⟨v32,h33,hr⟩:=zaa hr;refine wih tk h33 rfl rfl rfl rfl rfl ?_;obtain ⟨v34,h35,hr⟩:=zaa hr;refine wo (wga (F:=cI) (l:=s11.2.2) (n:=j20.2.1) (j:=0) (v:=v34) (v' :=((w64 (v30+1)))) (pcs:=[pI ((w64 (v30+1)))]) rfl rfl rfl w4a rfl h35 rfl rfl) rfl ?_;exact jx 5 hr
    refine rn tk 5 rfl<|wz cI ([1]:List Int) tk rfl rfl (fun _=>rfl) rfl rfl rfl ?_;obtain ⟨v36,h37,hr⟩:=zaa hr;refine wa tk h37 rfl rfl rfl rfl (fun _=>rfl) rfl rfl<|rn tk 5 rfl<|wn tk rfl rfl rfl ?_;exact jx 3 hr
   exact cx 4 hr
  exact ox 2 hr
 refine clx 5 hr zna fun v38 _ hr=>?_
 refine rn tk 4 rfl ?_;refine Z9a 1007 rfl (hC ?_);refine qma (d:=4) (F:=cI) (l:=b12) rfl rfl (hC ?_);exact kx 1 hr
theorem str_argN{g:G}{s:Str}{v:Value}(h:Rel g (.s s) v):v=.string (strB s):=zTa h
theorem pow_tab {g : G} (hg : Gl g) : Lib.TabIs prog g.w "internal/strconv.uint64pow10" .u64 Lib.pow10Tab := by
 obtain ⟨t,fz,h⟩:=hg.2.1 (0,(Lib.pow10Tab.map fun z=>Value.int .u64 z).toArray) (by simp[globK]);have hn : prog.globalNamed "internal/strconv.uint64pow10" = some 0 := by kernel_rfl
 unfold Lib.TabIs World.var?;rw[hn];simp only[jAb];simp only at h;rw[h]
theorem qUb(g:G)(q:Nat)(os:Array Obj):Old (fun _=>False) g ⟨Go.Sort.grow (g.w.drewN q) os,g.u,g.loc⟩:=by
 have hb:∀k,k < g.w.heap.size->(Go.Sort.grow (g.w.drewN q) os).heap[k]? =g.w.heap[k]? :=by
  intro k hk;show (g.w.heap++os)[k]? =_;rw[jBe hk]
 refine ⟨rfl,rfl,rfl,⟨?_,fun _ _=>jAt _,fun k i hk hi=>?_,fun r hr=>(hb r (zCa hr)).trans hr⟩,fun k hk _=>⟨hb k hk,rfl⟩⟩
 .show g.w.heap.size<=(g.w.heap++os).size;simp
 simp only[World.cell?];rw[hb k hk]
theorem qEa(n:Int)(r:Str)(hr:zWa n=some r):Run prog 33 [.i n] (.s r):=by
 unfold zWa at hr;split at hr
 case isFalse=>cases hr
 rename_i hlen;cases hr;refine ⟨⟨_,_,⟨func33,rfl,by kernel_rfl⟩⟩,fun g vs hw hg ha=>?_⟩;obtain ⟨hsz,hrel⟩:=ha;obtain ⟨l⟩:=vs
 match l,hsz with
 | [x],_=>
  have e2:x=.int .i64 n:=zTa (hrel 0 _ rfl);subst e2;refine callsIn_wide.2 ((Tryz.strconv_Itoa n hlen.1 hlen.2 g.w (pow_tab hg)).mono ?_);rintro e w' ⟨rfl,q,os,rfl⟩;exact ⟨⟨Go.Sort.grow (g.w.drewN q) os,g.u,g.loc⟩,_,rfl,rfl,qUb g q os,fun k hk=>hw k (jBk (qUb g q os).ext.size hk),rfl,.pv (.b rfl)⟩
end Go.Proofs.YtpphhgbmooofgaaGreatDoor
