/- Part 4 of the proof of the law SpoolSurvivesCrashes: what it needs. -/
import Derived.Test.YtdblnmhmmfahkaaGreatKSpoolSurvivesCrashes3
import Derived.Lib.ItoaMem
import Derived.Shelf.Small.Utf8
import Derived.Shelf.Small.Strs
import Derived.Shelf.Strings.Search1
import Derived.Shelf.Strings.Search2
import Derived.Shelf.Strings.Search3
import Derived.Shelf.Strings.Cut
import Derived.Shelf.LaysM
import Derived.Shelf.Strings.Shaped
import Derived.Shelf.Strings.Prefix
import Derived.Shelf.Strings.Runes
import Derived.Shelf.Strings.IndexAny
import Derived.Shelf.Strings.AsciiSet
import Derived.Shelf.Strings.IndexAnyAll
import Derived.Shelf.Bytes.SlSearch0
import Derived.Shelf.Bytes.SlSmallAll
import Derived.Shelf.Bytes.SlEqualAll
import Derived.Shelf.Bytes.Small
import Derived.Test.YtdblnmhmmfahkaaGreatProg
set_option linter.unusedVariables false
set_option linter.unusedSimpArgs false
set_option maxRecDepth 100000
set_option maxHeartbeats 40000000
namespace Go.Proofs.YtdblnmhmmfahkaaGreat
open Go.RowKit Go.Proofs.Tryz
def jZa(c:UInt8):Bool:=c==32 || c==9
theorem Kaa(c:UInt8):vta c=some (jZa c):=by
 unfold vta jZa;rw[V2a c 32 (by decide),V2a c 9 (by decide)];cases c==32 <;> rfl
def fnC(c:UInt8):Bool:=decide (33<=c) && decide (c<=126) && c !=58
def fnP(s:Str):Bool:=s !=([]:Str) && decide (s.length<=60) && s.all fnC
theorem dec60(s:Str):decide ((s.length:Int)<=60)=decide (s.length<=60):=by generalize s.length=n;rw[jAz];simp;omega
theorem zcb(s:Str)(hs:s.length<=1048576):Zla s=some (fnP s):=by
 have hloop:iter (wQa s) 0=some ((kCa (fun _ c=>if !fnC c then some () else none) 0 s).elim (.inl ()) .inr):=by
  refine kKa s _ (Sum.inl ()) Sum.inr ?_ ?_
  .unfold wQa;rw[z6a];rfl
  intro i c hc;have hi:=z5a hc;unfold wQa;rw[kua hc,zEa hc];simp only[cond_true,jAb,u8_ne c 58 (by decide),Yca 33 c (by decide),Yda 126 c (by decide),sc i (by omega)];unfold fnC;cases decide ((33:UInt8)<=c) <;> cases decide (c<=126) <;> cases c !=58 <;> rfl
 unfold Zla fnP;rw[hloop];simp only[jAb,Z9a,KUa,vXb,dec60];cases s !=([]:Str) <;> cases decide (s.length<=60) <;> cases s.all fnC <;> rfl
def endC(c:UInt8):Bool:=c==13 || c==10 || c==0
theorem zdb(s:Str)(hs:s.length<=1048576):Zma s=some (s.any endC):=by
 unfold Zma;rw[j7a s _ hs (by decide) (by decide) (by decide)];simp only[jAb,Option.some.injEq]
 congr 1
 funext c;rw[jAz];simp[endC,or_assoc]
def edgeP(s:Str):Bool:=match s.head?,s.getLast? with | some a,some b=>jZa a || jZa b | _,_=>false
def valP(s:Str):Bool:= !(s.any endC) && !(edgeP s)
theorem idx_last(s:Str)(h:s≠ [])(hs:s.length<=1048576):∃a b,idx s 0=some a/\idx s (w64 ((s.length:Int) - 1))=some b/\s.head? =some a/\s.getLast? =some b:=by
 have hpos:=List.length_pos_iff.2 h;obtain ⟨a,r,rfl⟩:=List.exists_cons_of_ne_nil h;have e:w64 (((a::r).length:Int) - 1)=((r.length:Nat):Int):=by
  have hl:(a::r).length=r.length+1:=rfl;rw[v1a (by omega) (by omega)];omega
 refine ⟨a,(a::r).getLast h,rfl,?_,rfl,List.getLast?_eq_some_getLast h⟩;rw[e,Qza,List.getLast_eq_getElem h,jAh (by simp)]
 congr 2
theorem Y7a(s:Str)(hs:s.length<=1048576):y9a s=some (valP s):=by
 unfold y9a valP;rw[zdb s hs];simp only[jAb];by_cases hn:s=[]
 .subst hn;rfl
 obtain ⟨a,b,h1,h2,h3,h4⟩:=idx_last s hn hs;have e:(s==([]:Str))=false:=by simpa using hn
 unfold edgeP;rw[h1,h2,h3,h4,e];simp only[jAb,Kaa,cond_false];cases s.any endC <;> cases jZa a <;> cases jZa b <;> rfl
def br(t:Str)(f i:Nat):Bool:=decide (1<=i) && decide (f<=i) && (match t[i]?,t[i - 1]? with | some a,some b=>jZa a && !jZa b | _,_=>false)
def Y8a(t:Str)(f:Nat):Nat->Nat
 | 0=>0
 | i+1=>if br t f (i+1) then i+1 else Y8a t f i
def z6b(t:Str)(f:Nat):Nat->Nat->Nat
 | 0,_=>0
 | n+1,i=>if br t f i then i else z6b t f n (i+1)
def cutP(t:Str)(f:Nat):Nat:=if Y8a t f 78=0 then z6b t f (t.length - 79) 79 else Y8a t f 78
def z7b(t:Str)(f c:Nat):Prop:=(c=0/\∀j,br t f j=false)∨(br t f c=true/\((c<=78/\∀j,c < j->j<=78->br t f j=false)∨(78 < c/\∀j,j < c->br t f j=false)))
theorem v2b(t:Str)(f:Nat):br t f 0=false:=rfl
theorem z8b{t:Str}{f i:Nat}(h:br t f i=true):i < t.length/\1<=i/\f<=i:=by
 unfold br at h;simp only[jAr,decide_eq_true_eq]at h;obtain ⟨⟨h1,h2⟩,h3⟩:=h;refine ⟨?_,h1,h2⟩;cases hi:t[i]? with
 | none=>rw[hi]at h3;simp at h3
 | some a=>exact z5a hi
theorem zeb{t:Str}{f c d:Nat}(h:z7b t f c)(k:z7b t f d):c=d:=by
 rcases h with ⟨rfl,h⟩ | ⟨hc,h⟩ <;> rcases k with ⟨rfl,k⟩ | ⟨hd,k⟩
 .rfl
 .rw[h]at hd;cases hd
 .rw[k]at hc;cases hc
 rcases Nat.lt_trichotomy c d with hlt | heq | hgt
 .exfalso;rcases h with ⟨h1,h2⟩ | ⟨h1,h2⟩ <;> rcases k with ⟨k1,k2⟩ | ⟨k1,k2⟩
  .rw[h2 d hlt k1]at hd;cases hd
  .rw[k2 c hlt]at hc;cases hc
  .omega
  rw[k2 c hlt]at hc;cases hc
 .exact heq
 exfalso;rcases h with ⟨h1,h2⟩ | ⟨h1,h2⟩ <;> rcases k with ⟨k1,k2⟩ | ⟨k1,k2⟩
 .rw[k2 c hgt h1]at hc;cases hc
 .omega
 .rw[h2 d hgt]at hd;cases hd
 rw[h2 d hgt]at hd;cases hd
theorem qub(t:Str)(f:Nat):∀n,(Y8a t f n=0/\∀j,j<=n->br t f j=false)∨(br t f (Y8a t f n)=true/\Y8a t f n<=n/\∀j,Y8a t f n < j->j<=n->br t f j=false):=by
 intro n;induction n with
 | zero=>left;exact ⟨rfl,fun j hj=>by
  obtain rfl:j=0:=by omega
  exact v2b t f⟩
 | succ n ih=>
  unfold Y8a;by_cases h:br t f (n+1)=true
  .rw[if_pos h];right;exact ⟨h,jBc _,fun j h1 h2=>by omega⟩
  rw[if_neg h];rcases ih with ⟨h1,h2⟩ | ⟨h1,h2,h3⟩
  .left;refine ⟨h1,fun j hj=>?_⟩;by_cases e:j=n+1
   .subst e;simpa using h
   exact h2 j (by omega)
  right;refine ⟨h1,by omega,fun j hj hjn=>?_⟩;by_cases e:j=n+1
  .subst e;simpa using h
  exact h3 j hj (by omega)
theorem qvb(t:Str)(f:Nat):∀n i,(z6b t f n i=0/\∀j,i<=j->j < i+n->br t f j=false)∨(br t f (z6b t f n i)=true/\i<=z6b t f n i/\∀j,i<=j->j < z6b t f n i->br t f j=false):=by
 intro n;induction n with
 | zero=>intro i;left;exact ⟨rfl,fun j h1 h2=>by omega⟩
 | succ n ih=>
  intro i;unfold z6b;by_cases h:br t f i=true
  .rw[if_pos h];right;exact ⟨h,jBc _,fun j h1 h2=>by omega⟩
  rw[if_neg h];have hb:br t f i=false:=by simpa using h
  rcases ih (i+1) with ⟨h1,h2⟩ | ⟨h1,h2,h3⟩
  .left;refine ⟨h1,fun j hj hjn=>?_⟩;by_cases e:j=i
   .subst e;exact hb
   exact h2 j (by omega) (by omega)
  right;refine ⟨h1,by omega,fun j hj hjn=>?_⟩;by_cases e:j=i
  .subst e;exact hb
  exact h3 j (by omega) hjn
theorem v3b(t:Str)(f:Nat):z7b t f (cutP t f):=by
 unfold cutP;rcases qub t f 78 with ⟨h1,h2⟩ | ⟨h1,h2,h3⟩
 .rw[if_pos h1];rcases qvb t f (t.length - 79) 79 with ⟨k1,k2⟩ | ⟨k1,k2,k3⟩
  .left;refine ⟨k1,fun j=>?_⟩;by_cases hj:j<=78
   .exact h2 j hj
   cases hb:br t f j with
   | false=>rfl
   | true=>have:=(z8b hb).1;rw[k2 j (by omega) (by omega)]at hb;cases hb
  right;refine ⟨k1,.inr ⟨by omega,fun j hj=>?_⟩⟩;by_cases hj2:j<=78
  .exact h2 j hj2
  exact k3 j (by omega) hj
 have hne:Y8a t f 78≠0:=by intro h;rw[h,v2b]at h1;cases h1
 rw[if_neg hne];exact .inr ⟨h1,.inl ⟨h2,h3⟩⟩
theorem KWa{t:Str}{f:Nat}(h:cutP t f≠0):1<=cutP t f/\cutP t f < t.length:=by
 rcases v3b t f with ⟨h1,_⟩ | ⟨h1,_⟩
 .exact absurd h1 h
 exact ⟨(z8b h1).2.1,(z8b h1).1⟩
theorem br_at{t:Str}{f i:Nat}(h1:1<=i)(hi:i < t.length):br t f i=(decide (f<=i) && (jZa t[i] && !jZa (t[i - 1]'(by omega)))):=by
 unfold br;rw[jAh hi,jAh (show i - 1 < t.length by omega)];simp[h1]
def PInv(t:Str)(f b i:Nat):Prop:=f<=i/\1<=i/\((b=0/\∀j,j < i->br t f j=false)∨(br t f b=true/\b < i/\((b<=78/\∀j,b < j->j < i->br t f j=false)∨(78 < b/\∀j,j < b->br t f j=false))))
theorem PInv.done{t:Str}{f b i:Nat}(h:PInv t f b i)(hi:0 < b/\78 < i∨t.length<=i):z7b t f b:=by
 obtain ⟨hf,h1,h2⟩:=h;rcases h2 with ⟨rfl,h3⟩ | ⟨h3,h4,h5⟩
 .left;refine ⟨rfl,fun j=>?_⟩;cases hb:br t f j with
  | false=>rfl
  | true=>
   have:=(z8b hb).1;rw[h3 j (by omega)]at hb;cases hb
 right;refine ⟨h3,?_⟩;rcases h5 with ⟨h6,h7⟩ | h6
 .left;refine ⟨h6,fun j hj hj2=>?_⟩;cases hb:br t f j with
  | false=>rfl
  | true=>
   have:=(z8b hb).1;rw[h7 j hj (by omega)]at hb;cases hb
 exact .inr h6
theorem Y9a(t:Str)(f:Nat)(ht:t.length<=4194304)(hf:f<=4194304):jaa t (f:Int)=some ((cutP t (max f 1):Nat):Int):=by
 unfold jaa;have hstart:max (f:Int) 1=((max f 1:Nat):Int):=by omega
 rw[hstart];obtain ⟨r,h1,b,rfl,h2⟩:=Y1a (body:=w9a t) (fun s=>∃b i:Nat,s=((b:Int),(i:Int))/\PInv t (max f 1) b i/\i<=4194305) (fun s=>(4194306 - s.2).toNat) (fun _ r=>∃c:Nat,r=(c:Int)/\z7b t (max f 1) c) (by
  rintro _ ⟨b,i,rfl,hI,hil⟩;have hi1:=hI.2.1;unfold w9a;dsimp only;by_cases hlt:i < t.length
  .have hd:decide ((i:Int) < (t.length:Int))=true:=by simp;omega
   have hpre:w64 ((i:Int) - 1)=((i - 1:Nat):Int):=by rw[v1a (by omega) (by omega)];omega
   rw[hd,vOb hlt,hpre,vOb (show i - 1 < t.length by omega)];have hb:=br_at (f:=max f 1) hi1 hlt;have hfi:decide (max f 1<=i)=true:=by simp only[decide_eq_true_eq];exact hI.1
   rw[hfi,jDq]at hb;simp only[cond_true,jAb,Kaa];have next:∀b' :Nat,PInv t (max f 1) b' (i+1)->qUa ((b:Int),(i:Int)) (b' :Int)=some (.cont ((b' :Int),((i+1:Nat):Int))):=by
    intro b' _;unfold qUa;dsimp only;rw[sc i (by omega)]
   have hno:br t (max f 1) i=false->PInv t (max f 1) b (i+1):=by
    intro hnb;refine ⟨by have:=hI.1;omega,by omega,?_⟩;rcases hI.2.2 with ⟨q1,q2⟩ | ⟨q1,q2,q3⟩
    .left;refine ⟨q1,fun j hj=>?_⟩;by_cases e:j=i
     .subst e;exact hnb
     exact q2 j (by omega)
    right;refine ⟨q1,by omega,?_⟩;rcases q3 with ⟨q4,q5⟩ | q4
    .left;refine ⟨q4,fun j hj hj2=>?_⟩;by_cases e:j=i
     .subst e;exact hnb
     exact q5 j hj (by omega)
    exact .inr q4
   have goNo:br t (max f 1) i=false->(∃s',qUa ((b:Int),(i:Int)) (b:Int)=some (.cont s')/\(∃b i:Nat,s' =((b:Int),(i:Int))/\PInv t (max f 1) b i/\i<=4194305)/\(4194306 - s'.2).toNat < (4194306 - ((i:Int))).toNat/\∀r:Int,(∃c:Nat,r=(c:Int)/\z7b t (max f 1) c)->∃c:Nat,r=(c:Int)/\z7b t (max f 1) c):=by
    intro hnb;exact ⟨_,next b (hno hnb),⟨b,i+1,rfl,hno hnb,by omega⟩,by dsimp only;omega,fun _ h=>h⟩
   cases ha:jZa t[i] with
   | false=>
    rw[ha]at hb;simp only[Bool.not_false,cond_true,jAb];exact .inr (goNo hb)
   | true=>
    rw[ha]at hb;simp only[jBh,cond_false,jAb];cases hp:jZa t[i - 1] with
    | true=>
     rw[hp]at hb;simp only[cond_true];exact .inr (goNo hb)
    | false=>
     rw[hp]at hb;have hb:br t (max f 1) i=true:=hb;simp only[cond_false];by_cases hb0:0 < b/\78 < i
     .left;have e1:decide ((0:Int) < (b:Int))=true:=by simp;omega
      have e2:decide ((78:Int) < (i:Int))=true:=by simp;omega
      rw[e1,e2];exact ⟨(b:Int),rfl,b,rfl,hI.done (.inl hb0)⟩
     right;have e:(bif decide ((0:Int) < (b:Int)) then some (decide ((78:Int) < (i:Int))) else some false)=some false:=by
      by_cases h0:0 < b
      .have e1:decide ((0:Int) < (b:Int))=true:=by simp;omega
       have e2:decide ((78:Int) < (i:Int))=false:=by simp;omega
       rw[e1,e2];rfl
      have e1:decide ((0:Int) < (b:Int))=false:=by simp;omega
      rw[e1];rfl
     rw[e];simp only[jAb,cond_false];have hnew:PInv t (max f 1) i (i+1):=by
      refine ⟨by have:=hI.1;omega,by omega,.inr ⟨hb,by omega,?_⟩⟩;by_cases h78:i<=78
      .exact .inl ⟨h78,fun j h1 h2=>by omega⟩
      right;refine ⟨by omega,?_⟩;rcases hI.2.2 with ⟨q1,q2⟩ | ⟨q1,q2,q3⟩
      .exact q2
      exfalso;have:=(z8b q1).2.1;omega
     exact ⟨_,next i hnew,⟨i,i+1,rfl,hnew,by omega⟩,by dsimp only;omega,fun _ h=>h⟩
  left;have hd:decide ((i:Int) < (t.length:Int))=false:=by simp;omega
  rw[hd];exact ⟨(b:Int),rfl,b,rfl,hI.done (.inr (by omega))⟩) ((0:Int),((max f 1:Nat):Int)) ⟨0,max f 1,rfl,⟨jBc _,by omega,.inl ⟨rfl,fun j hj=>by
  cases hb:br t (max f 1) j with
  | false=>rfl
  | true=>have:=(z8b hb).2.2;omega⟩⟩,by omega⟩
 rw[h1];simp only[jAb];rw[zeb h2 (v3b t (max f 1))]
def KXa:Nat->Str->Nat->List Str
 | 0,t,_=>[t]
 | n+1,t,f=>if 78 < t.length then (if cutP t f=0 then [t] else t.take (cutP t f)::KXa n (t.drop (cutP t f)) 1) else [t]
theorem Jaa:∀(n m:Nat) (t:Str) (f:Nat),t.length<=n->t.length<=m->KXa n t f=KXa m t f:=by
 intro n;induction n with
 | zero=>
  intro m t f h1 h2;cases m with
  | zero=>rfl
  | succ m=>unfold KXa;rw[if_neg (by omega)]
 | succ n ih=>
  intro m t f h1 h2;cases m with
  | zero=>unfold KXa;rw[if_neg (by omega)]
  | succ m=>
   unfold KXa;split
   .split
    .rfl
    rename_i hc;have:=KWa hc;rw[ih m _ 1 (by simp;omega) (by simp;omega)]
   rfl
def yZa(t:Str)(f:Nat):List Str:=KXa t.length t f
theorem QVa{t:Str}{f:Nat}(h:78 < t.length)(hc:cutP t f≠0):yZa t f=t.take (cutP t f)::yZa (t.drop (cutP t f)) 1:=by
 unfold yZa;obtain ⟨n,hn⟩:∃n,t.length=n+1:=⟨t.length - 1,by omega⟩;have hp:=KWa hc;rw[hn,KXa,if_pos h,if_neg hc];rw[Jaa n (t.drop (cutP t f)).length _ 1 (by simp;omega) (jBc _)]
theorem wEa{t:Str}{f:Nat}(h:¬78 < t.length∨cutP t f=0):yZa t f=[t]:=by
 unfold yZa;cases hn:t.length with
 | zero=>rfl
 | succ n=>
  rw[KXa];rcases h with h | h
  .rw[if_neg h]
  split
  .rfl
  rfl
theorem zfb:∀(n:Nat) (t:Str) (f:Nat),t.length<=n->(yZa t f).flatten=t/\(yZa t f).length<=t.length+1:=by
 intro n;induction n with
 | zero=>intro t f h;rw[wEa (.inl (by omega))];simp
 | succ n ih=>
  intro t f h;by_cases h78:78 < t.length
  .by_cases hc:cutP t f=0
   .rw[wEa (.inr hc)];simp
   have hp:=KWa hc;rw[QVa h78 hc];obtain ⟨h1,h2⟩:=ih (t.drop (cutP t f)) 1 (by simp;omega);rw[List.flatten_cons,h1];refine ⟨by simp,?_⟩;simp only[jCl,jCh]at h2 ⊢;omega
  rw[wEa (.inl h78)];simp
theorem qwb{body:Str × Int × List Str->Option (Step (Str × Int × List Str) (Str × List Str))}(enc:Nat->Int)(g:Nat)
 (h:∀(t:Str) (f:Nat) (out:List Str),t.length<=4194304->out.length<=4194305->f<=4194304->body (t,enc f,out)=some (if 78 < t.length then (if cutP t (max f 1)=0 then .out (t,out) else .cont (t.drop (cutP t (max f 1)),enc g,out++ [t.take (cutP t (max f 1))])) else .out (t,out))) (h0:max g 1=1):
 ∀(n:Nat) (t:Str) (f:Nat) (out:List Str),t.length<=n->t.length<=4194304->out.length+t.length<=4194305->f<=4194304->∃last init,iter body (t,enc f,out)=some (last,init)/\init++ [last]=out++yZa t (max f 1):=by
 intro n;induction n with
 | zero=>
  intro t f out h1 h2 h3 h4;have hb:=h t f out h2 (by omega) h4;rw[if_neg (by omega)]at hb;exact ⟨t,out,zSa hb,by rw[wEa (.inl (by omega))]⟩
 | succ n ih=>
  intro t f out h1 h2 h3 h4;have hb:=h t f out h2 (by omega) h4;by_cases h78:78 < t.length
  .rw[if_pos h78]at hb;by_cases hc:cutP t (max f 1)=0
   .rw[if_pos hc]at hb;exact ⟨t,out,zSa hb,by rw[wEa (.inr hc)]⟩
   rw[if_neg hc]at hb;have hp:=KWa hc;obtain ⟨last,init,q1,q2⟩:=ih (t.drop (cutP t (max f 1))) g (out++ [t.take (cutP t (max f 1))]) (by simp;omega) (by simp;omega) (by simp;omega) (by omega);refine ⟨last,init,(z1a hb).trans q1,?_⟩;rw[q2,h0,QVa h78 hc];simp
  rw[if_neg h78]at hb;exact ⟨t,out,zSa hb,by rw[wEa (.inl h78)]⟩
def txt(n v:Str):Str:=n++ [58,32]++v
def flP(n v:Str):List Str:=yZa (txt n v) (n.length+2)
theorem v4b(t:Str)(f:Nat)(ht:t.length<=4194304)(hf:f<=4194304):∃last init,iter wRa (t,(f:Int),([]:List Str))=some (last,init)/\init++ [last]=yZa t (max f 1):=by
 have:=qwb (body:=wRa) (fun n=>(n:Int)) 0 (fun t f out h1 h2 h3=>by
  unfold wRa;dsimp only;by_cases h78:78 < t.length
  .have hd:decide ((78:Int) < (t.length:Int))=true:=by rw[decide_eq_true_eq];omega
   rw[hd,if_pos h78,Y9a t f h1 h3];simp only[cond_true,jAb];by_cases hc:cutP t (max f 1)=0
   .rw[if_pos hc,hc];rfl
   have hp:=KWa hc;have e:(((cutP t (max f 1):Nat):Int)==0)=false:=by rw[beq_eq_false_iff_ne];omega
   rw[if_neg hc,e,Z8a (by omega),V3a (by omega)];simp only[cond_false,jAb];rw[vka (by simp;omega)];rfl
  have hd:decide ((78:Int) < (t.length:Int))=false:=by rw[decide_eq_false_iff_not];omega
  rw[hd,if_neg h78];rfl) (by decide) t.length t f [] (jBc _) ht (by simp;omega) hf
 simpa using this
theorem txt_cat(n v:Str)(hn:n.length<=1048576)(hv:v.length<=1048576):cat n [58,32]=some (n++ [58,32])/\cat (n++ [58,32]) v=some (txt n v)/\w64 ((n.length:Int)+2)=((n.length+2:Nat):Int):=by
 refine ⟨cat_ok (by simp;omega),cat_ok (by simp;omega),?_⟩;rw[v1a (by omega) (by omega)];omega
theorem v5b(n v:Str):(txt n v).length=n.length+2+v.length:=by unfold txt;simp;omega
def V5a(i:Nat)(l:Str):Option Int:=if 998 < l.length then some (i:Int) else none
def z9b(n v:Str):List Str × zsa:=
 if !fnP n then ([],⟨10, -1⟩) else if 4000 < v.length then ([],⟨1, -1⟩) else if !valP v then ([],⟨11, -1⟩) else match kCa V5a 0 (flP n v) with | some i=>([],⟨1,i⟩) | none=>(flP n v,⟨0,0⟩)
theorem fl_len(n v:Str):(flP n v).length<=n.length+v.length+3:=by
 have:=(zfb (txt n v).length (txt n v) (n.length+2) (jBc _)).2;have hl:=v5b n v;unfold flP;omega
theorem dec998(l:Str):decide ((998:Int) < (l.length:Int))=decide (998 < l.length):=by generalize l.length=n;rw[jAz];simp;omega
theorem QWa(n v:Str)(hn:n.length<=1048576)(hv:v.length<=1048576):jba n v=some (z9b n v):=by
 obtain ⟨h1,h2,h3⟩:=txt_cat n v hn hv;have hl:=v5b n v;obtain ⟨last,init,q1,q2⟩:=v4b (txt n v) (n.length+2) (by omega) (by omega);rw[show max (n.length+2) 1=n.length+2 by omega]at q2;unfold jba z9b;rw[zcb n hn,Y7a v hv];simp only[jAb,zMa,kDa];cases fnP n with
 | false=>rfl
 | true=>
  simp only[jBh,cond_false,jAi,if_false];by_cases h4:4000 < v.length
  .have hd:decide ((4000:Int) < (v.length:Int))=true:=by rw[decide_eq_true_eq];omega
   rw[hd,if_pos h4];rfl
  have hd:decide ((4000:Int) < (v.length:Int))=false:=by rw[decide_eq_false_iff_not];omega
  rw[hd,if_neg h4];simp only[cond_false];cases valP v with
  | false=>rfl
  | true=>
   simp only[jBh,cond_false,jAi,if_false];rw[h1];simp only[jAb];rw[h2];simp only[jAb];rw[h3,q1];simp only[jAb];have hj:=fl_len n v;have hfl:flP n v=init++ [last]:=q2.symm;have hj2:=hj;rw[hfl]at hj2;simp at hj2;rw[vka (by simp;omega),<-hfl];simp only[jAb];rw[kKa (flP n v) (fun i l=>(V5a i l).map fun k=>(([]:List Str),(⟨1,k⟩:zsa))) (.inl ()) .inr]
   .simp only[jAb];have hm:∀(l:List Str) (i:Nat),kCa (fun i l=>(V5a i l).map fun k=>(([]:List Str),(⟨1,k⟩:zsa))) i l=(kCa V5a i l).map fun k=>(([]:List Str),(⟨1,k⟩:zsa)):=by
     intro l;induction l with
     | nil=>intro i;rfl
     | cons x l ih=>intro i;unfold kCa;rw[ih];cases V5a i x <;> rfl
    rw[hm];cases kCa V5a 0 (flP n v) <;> rfl
   .unfold yOa;rw[z6a];rfl
   intro i l hli;have hi:=z5a hli;unfold yOa V5a;rw[kua hli,zEa hli];simp only[cond_true,jAb,dec998,zMa,sc i (by omega)];by_cases h9:998 < l.length
   .simp[h9]
   simp[h9]
def Q5a(f:zka):Int:=(z9b f.Name f.Value).2.Code
def qxb(l:List Str):Bool:=l.any fun s=>decide (998 < s.length)
theorem Yka(l:List Str):∀n,(kCa V5a n l).isSome=qxb l:=by
 induction l with
 | nil=>intro n;rfl
 | cons x l ih=>
  intro n;unfold kCa qxb V5a;by_cases h:998 < x.length
  .simp[h]
  simp only[h,if_false,List.any_cons,decide_false,jDr];exact ih (n+1)
def codeQ(n v:Str):Int:=if !fnP n then 10 else if 4000 < v.length then 1 else if !valP v then 11 else if qxb (flP n v) then 1 else 0
theorem codeP_eq(f:zka):Q5a f=codeQ f.Name f.Value:=by
 unfold Q5a z9b codeQ;rw[<-Yka (flP f.Name f.Value) 0];split
 .rfl
 split
 .rfl
 split
 .rfl
 cases kCa V5a 0 (flP f.Name f.Value) <;> rfl
def smallF(l:List zka):Prop:=l.length<=1048576/\∀f∈l,f.Name.length<=1048576/\f.Value.length<=1048576
def V6a(i:Nat)(f:zka):Option zsa:=if Q5a f !=0 then some ⟨Q5a f,i⟩ else none
def kab(l:List zka):zsa:=if 60 < l.length then ⟨2, -1⟩ else (kCa V6a 0 l).getD ⟨0,0⟩
theorem dec60f(l:List zka):decide ((60:Int) < (l.length:Int))=decide (60 < l.length):=by generalize l.length=n;rw[jAz];simp;omega
theorem KYa(l:List zka)(h:smallF l):vua l=some (kab l):=by
 obtain ⟨h1,h2⟩:=h;unfold vua kab;rw[kKa l V6a (.inl ()) .inr]
 .simp only[jAb,zMa,kDa,Yha,dec60f];by_cases h6:60 < l.length <;> simp[h6]
 .unfold via;rw[z6a];rfl
 intro i f hf;have hi:=z5a hf;obtain ⟨hn,hv⟩:=h2 f (jAd hf);unfold via V6a;rw[kua hf,zEa hf];simp only[cond_true,jAb,QWa _ _ hn hv,z7a,zMa,sc i (by omega)];show (bif Q5a f !=0 then _ else _)=_;cases Q5a f !=0 <;> rfl
theorem qyb(l:List zka)(h:(kab l).Code=0):¬60 < l.length/\kCa V6a 0 l=none/\∀f∈l,Q5a f=0:=by
 unfold kab at h;by_cases h6:60 < l.length
 .rw[if_pos h6]at h;simp at h
 rw[if_neg h6]at h;cases hq:kCa V6a 0 l with
 | some y=>
  rw[hq]at h;obtain ⟨i,f,h1,h2⟩:=Kna hq;unfold V6a at h2;exfalso;by_cases hc:Q5a f=0
  .simp[hc]at h2
  have:(Q5a f !=0)=true:=by simpa using hc
  rw[this]at h2;simp at h2;subst h2;exact hc h
 | none=>
  refine ⟨h6,rfl,fun f hf=>?_⟩;obtain ⟨i,hi⟩:=List.getElem?_of_mem hf;have:=q2a.1 hq i f hi;unfold V6a at this;simpa using this
theorem codeP_ok{f:zka}(h:Q5a f=0):f.Name.length<=60/\f.Value.length<=4000/\z9b f.Name f.Value=(flP f.Name f.Value,⟨0,0⟩)/\∀l∈flP f.Name f.Value,l.length<=998:=by
 have h0:=h;rw[codeP_eq]at h;unfold codeQ at h;have h1:fnP f.Name=true:=by cases hx:fnP f.Name with
  | true=>rfl
  | false=>rw[hx]at h;simp at h
 rw[h1]at h;simp only[jBh,jAi,if_false]at h;have h2:¬4000 < f.Value.length:=by intro hx;rw[if_pos hx]at h;simp at h
 rw[if_neg h2]at h;have h3:valP f.Value=true:=by cases hx:valP f.Value with
  | true=>rfl
  | false=>rw[hx]at h;simp at h
 rw[h3]at h;simp only[jBh,jAi,if_false]at h;have h4:qxb (flP f.Name f.Value)=false:=by cases hx:qxb (flP f.Name f.Value) with
  | false=>rfl
  | true=>rw[hx]at h;simp at h
 refine ⟨?_,by omega,?_,?_⟩
 .unfold fnP at h1;simp only[jAr,decide_eq_true_eq]at h1;exact h1.1.2
 .unfold z9b;rw[h1,h3];simp only[jBh,jAi,if_false,if_neg h2];have:=Yka (flP f.Name f.Value) 0;rw[h4]at this;cases hx:kCa V5a 0 (flP f.Name f.Value) with
  | none=>rfl
  | some y=>rw[hx]at this;cases this
 intro l hl;unfold qxb at h4;rw[jCr]at h4;have:=h4 l hl;simp at this;omega
def addL(a:List UInt8)(l:Str):List UInt8:=a++l++ [13,10]
def addF(a:List UInt8)(f:zka):List UInt8:=(flP f.Name f.Value).foldl addL a
def V7a(m:zHa):List UInt8:=m.Fields.foldl addF []++ [13,10]++m.Body
theorem lines_wr(l:List Str)(acc:List UInt8)(hl:l.length<=5000)(h9:∀s∈l,s.length<=998)(ha:acc.length<=1000000000){body:Int × List UInt8->Option (Step (Int × List UInt8) (List UInt8))}
 (h0:∀s,body ((l.length:Int),s)=some (.out s)) (h1:∀(i:Nat) x s,l[i]? =some x->s.length<=1006000000->body ((i:Int),s)=some (.cont (((i+1:Nat):Int),addL s x))):iter body (0,acc)=some (l.foldl addL acc)/\(l.foldl addL acc).length<=acc.length+1000 * l.length:=
 Zpa l (fun i s=>(i,s)) addL id (fun i s=>s.length<=acc.length+1000 * i) (body:=body) (fun s _=>h0 s) (fun i x s hx hi=>by
  have hlt:=z5a hx;have h9x:=h9 x (jAd hx);refine ⟨h1 i x s hx (by omega),?_⟩;unfold addL;simp;omega) acc (by simp)
theorem v6b(l:List zka)(hl:l.length<=60)(hc:∀f∈l,Q5a f=0){body:Int × List UInt8->Option (Step (Int × List UInt8) (List UInt8))}
 (h0:∀s,body ((l.length:Int),s)=some (.out s)) (h1:∀(i:Nat) f s,l[i]? =some f->s.length<=1000000000->body ((i:Int),s)=some (.cont (((i+1:Nat):Int),addF s f))/\(addF s f).length<=s.length+5000000):iter body (0,([]:List UInt8))=some (l.foldl addF [])/\(l.foldl addF []).length<=5000000 * l.length:=
 Zpa l (fun i s=>(i,s)) addF id (fun i s=>s.length<=5000000 * i) (body:=body) (fun s _=>h0 s) (fun i f s hf hi=>by
  have hlt:=z5a hf;obtain ⟨q1,q2⟩:=h1 i f s hf (by omega);exact ⟨q1,by omega⟩) [] (by simp)
theorem Q6a(m:zHa)(hb:m.Body.length<=1048576)(h60:m.Fields.length<=60)(hc:∀f∈m.Fields,Q5a f=0):wfa m=some (V7a m):=by
 unfold wfa V7a;obtain ⟨h1,h2⟩:=v6b m.Fields h60 hc (body:=q7a m) (fun s=>by unfold q7a;rw[z6a];rfl) (fun i f s hf hs=>by
  have hi:=z5a hf;obtain ⟨c1,c2,c3,c4⟩:=codeP_ok (hc f (jAd hf));have hfl:=fl_len f.Name f.Value;obtain ⟨q1,q2⟩:=lines_wr (flP f.Name f.Value) s (by omega) c4 hs (body:=q6a (z9b f.Name f.Value)) (fun s=>by unfold q6a;rw[c3,z6a];rfl) (fun k x s hx hs=>by
   have hk:=z5a hx;have:=c4 x (jAd hx);unfold q6a;rw[c3,kua hx,zEa hx];simp only[cond_true,jAb,sc k (by omega)];rw[vka (by omega)];simp only[jAb];rw[vka (by simp;omega)];rfl)
  unfold addF;refine ⟨?_,by omega⟩;unfold q7a;rw[kua hf,zEa hf];simp only[cond_true,jAb,QWa f.Name f.Value (by omega) (by omega),q1,sc i (by omega)])
 rw[h1];simp only[jAb];rw[vka (by simp;omega)];simp only[jAb];rw[vka (by simp;omega)];rfl
def Jba:Nat->List UInt8->Option Bool
 | _,[]=>none
 | c,[x]=>if x==13 || x==10 then some true else if 998 < c+1 then some false else none
 | c,x::y::r=>if x==13 && y==10 then Jba 0 r else if x==13 || x==10 then some true else if 998 < c+1 then some false else Jba (c+1) (y::r)
def Vna{O:Type}(e:Bool->O)(c i:Nat)(x:UInt8)(r:List UInt8):Step (Int × Int) (Unit ⊕ O):=
 if x==13 && r.head? ==some 10 then .cont (0,((i+2:Nat):Int)) else if x==13 || x==10 then .out (.inr (e true)) else if 998 < c+1 then .out (.inr (e false)) else .cont (((c+1:Nat):Int),((i+1:Nat):Int))
theorem v7b{O:Type}(e:Bool->O)(l:List UInt8){body:Int × Int->Option (Step (Int × Int) (Unit ⊕ O))}
 (h0:∀c,body (c,(l.length:Int))=some (.out (.inl ())))
 (hs:∀(c:Nat) (p:List UInt8) x r,l=p++x::r->c<=998->body ((c:Int),(p.length:Int))=some (Vna e c p.length x r)):
 ∀(n:Nat) (r p:List UInt8) (c:Nat),r.length<=n->l=p++r->c<=998->iter body ((c:Int),(p.length:Int))=some ((Jba c r).elim (.inl ()) fun b=>.inr (e b)):=by
 intro n;induction n with
 | zero=>
  intro r p c hr hl hc;obtain rfl:r=[]:=List.length_eq_zero_iff.1 (by omega);have:p=l:=by simp[hl]
  subst this;exact zSa (h0 _)
 | succ n ih=>
  intro r p c hr hl hc
  match r,hr,hl with
  | [],_,hl=>
   have:p=l:=by simp[hl]
   subst this;exact zSa (h0 _)
  | [x],hr,hl=>
   have hb:=hs c p x [] hl hc;unfold Vna at hb;have e1:(x==13 && ([]:List UInt8).head? ==some 10)=false:=by simp
   rw[e1]at hb;simp only[jAi,if_false]at hb;unfold Jba;cases hx:(x==13 || x==10) with
   | true=>rw[hx]at hb;exact zSa hb
   | false=>
    rw[hx]at hb;simp only[jAi,if_false]at hb ⊢;by_cases h9:998 < c+1
    .rw[if_pos h9]at hb ⊢;exact zSa hb
    rw[if_neg h9]at hb ⊢;rw[z1a hb];have:=ih [] (p++ [x]) (c+1) (by simp) (by simp[hl]) (by omega);rw[jAf]at this;exact this
  | x::y::r,hr,hl=>
   have hb:=hs c p x (y::r) hl hc;unfold Vna at hb;have e1:((y::r).head? ==some (10:UInt8))=(y==10):=by simp
   rw[e1]at hb;unfold Jba;cases hxy:(x==13 && y==10) with
   | true=>
    rw[hxy]at hb;simp only[if_true]at hb ⊢;rw[z1a hb];have:=ih r (p++ [x,y]) 0 (by simp at hr;omega) (by simp[hl]) (by omega);rw[jAf]at this;exact this
   | false=>
    rw[hxy]at hb;simp only[jAi,if_false]at hb ⊢;cases hx:(x==13 || x==10) with
    | true=>rw[hx]at hb;exact zSa hb
    | false=>
     rw[hx]at hb;simp only[jAi,if_false]at hb ⊢;by_cases h9:998 < c+1
     .rw[if_pos h9]at hb ⊢;exact zSa hb
     rw[if_neg h9]at hb ⊢;rw[z1a hb];have:=ih (y::r) (p++ [x]) (c+1) (by simp at hr ⊢;omega) (by simp[hl]) (by omega);rw[jAf]at this;exact this
theorem next_is{l p r:List UInt8}{x:UInt8}(h:l=p++x::r)(hl:l.length<=1048576):(bif decide (((p.length+1:Nat):Int) < (l.length:Int)) then (idx l ((p.length+1:Nat):Int)).bind fun v13=>some (((v13.toNat:Int)==10)) else some false)=some (r.head? ==some 10):=by
 subst h;simp at hl;cases r with
 | nil=>
  have:decide (((p.length+1:Nat):Int) < ((p++ [x]).length:Int))=false:=by simp
  rw[this];rfl
 | cons y r=>
  have:decide (((p.length+1:Nat):Int) < ((p++x::y::r).length:Int))=true:=by simp;omega
  rw[this,Qza];have:(p++x::y::r)[p.length+1]? =some y:=by simp[jAk]
  rw[this];simp only[cond_true,jAb,V2a y 10 (by decide)];simp
theorem Jca(l:List UInt8)(hl:l.length<=1048576):jca l=some ((Jba 0 l).elim 0 fun b=>bif b then 11 else 1):=by
 unfold jca;have:=v7b (fun b:Bool=>bif b then (11:Int) else 1) l (body:=vGa l) (fun c=>by unfold vGa;rw[z6a];rfl) (fun c p x r h hc=>by
  have hx:l[p.length]? =some x:=by simp[h]
  have hi:=z5a hx;unfold vGa wga Vna;dsimp only;rw[kua hx,zEa hx];simp only[cond_true,jAb,V2a x 13 (by decide),V2a x 10 (by decide),sc p.length (by omega),sc (p.length+1) (by omega),sc c (by omega)];rw[next_is h hl];have h9:decide ((998:Int) < ((c+1:Nat):Int))=decide (998 < c+1):=by rw[jAz];simp;omega
  rw[h9];by_cases h98:998 < c+1 <;> simp only[h98,decide_true,decide_false,if_true,if_false] <;> cases x==13 <;> cases x==10 <;> cases r.head? ==some 10 <;> rfl) l.length l [] 0 (jBc _) rfl (by omega)
 have h2:iter (vGa l) (0,0)=_:=this;rw[h2];cases Jba 0 l with
 | none=>rfl
 | some b=>cases b <;> rfl
def bodyF(l:List UInt8):zsa:=(Jba 0 l).elim ⟨0,0⟩ fun b=>bif b then ⟨11, -5⟩ else ⟨1, -6⟩
theorem V8a(l:List UInt8)(hl:l.length<=1048576):wSa l=some (bodyF l):=by
 unfold wSa bodyF;rw[Jca l hl];cases Jba 0 l with
 | none=>rfl
 | some b=>cases b <;> rfl
def msgF(m:zHa):zsa:=if (kab m.Fields).Code !=0 then kab m.Fields else if 12000 < (V7a m).length then ⟨1, -4⟩ else bodyF m.Body
def kFb(m:zHa):Prop:=smallF m.Fields/\m.Body.length<=1048576
theorem Koa(m:zHa)(h:kFb m):q8a m=some (msgF m):=by
 obtain ⟨h1,h2⟩:=h;unfold q8a msgF;rw[KYa _ h1];simp only[jAb,z7a,zMa,V8a _ h2];cases hc:(kab m.Fields).Code !=0 with
 | true=>rfl
 | false=>
  obtain ⟨q1,q2,q3⟩:=qyb m.Fields (by simpa using hc);rw[Q6a m h2 (by omega) q3];simp only[jAb,cond_false,jAi,if_false];have:decide ((12000:Int) < ((V7a m).length:Int))=decide (12000 < (V7a m).length):=by generalize (V7a m).length=n;rw[jAz];simp;omega
  rw[this];by_cases hb:12000 < (V7a m).length <;> simp[hb]
instance:DecidableEq zba:=fun a b=>decidable_of_iff (a.Address=b.Address/\a.Notify=b.Notify) (by cases a;cases b;simp)
instance:DecidableEq zsa:=fun a b=>decidable_of_iff (a.Code=b.Code/\a.Index=b.Index) (by cases a;cases b;simp)
instance:DecidableEq zNa:=fun a b=>decidable_of_iff (a.From=b.From/\a.To=b.To/\a.Id=b.Id) (by cases a;cases b;simp)
theorem rec_eq(a b:zba):qva [(a.Address==b.Address),(a.Notify==b.Notify)]=(a==b):=by
 cases a;cases b;rw[jAz];simp[qva]
def kbb(s:Str):Str:=if atP s < s.length then s.drop (atP s+1) else []
theorem qzb(s:Str):(Yea s).2.1=kbb s:=by
 unfold Yea kbb;by_cases h:atP s < s.length
 .rw[if_pos h,if_pos h]
 rw[if_neg h,if_neg h]
theorem v8b{α:Type}(l:List α)(i:Nat)(z:α)(h:i<=l.length):(clr0 l i z).take i=l.take i:=by
 unfold clr0;simp[List.take_append,h]
def V9a(s:Str)(r:zba):Bool:=r.Address==s
def kcb(out:List zba)(s:Str):Bool:=out.any (V9a s)
def putR(out:List zba)(r:zba):List zba:=if kcb out r.Address then out.map (fun x=>if V9a r.Address x then ⟨x.Address,iOr x.Notify r.Notify⟩ else x) else out++ [r]
def posA(out:List zba)(s:Str):Option Nat:=out.findIdx? (V9a s)
theorem posA_has(out:List zba)(s:Str):(posA out s).isSome=kcb out s:=by unfold posA kcb;exact List.findIdx?_isSome
theorem posA_app(out:List zba)(r:zba)(s:Str)(h:kcb out r.Address=false):posA (out++ [r]) s=if r.Address==s then some out.length else posA out s:=by
 unfold posA;rw[List.findIdx?_append];by_cases hs:(r.Address==s)=true
 .rw[if_pos hs];have e:r.Address=s:=beq_iff_eq.1 hs;subst e;have:out.findIdx? (V9a r.Address)=none:=by
   have:=posA_has out r.Address;rw[h]at this;unfold posA at this;simpa using this
  rw[this];simp[V9a]
 rw[if_neg hs];have:V9a s r=false:=by unfold V9a;simpa using hs
 simp[List.findIdx?_cons,this]
theorem posA_map(out:List zba)(f:zba->zba)(hf:∀x,(f x).Address=x.Address)(s:Str):posA (out.map f) s=posA out s:=by
 unfold posA;rw[List.findIdx?_map]
 congr 1
 funext x;simp[Function.comp,V9a,hf]
structure MInv (i:Nat) (out:List zba) (m:List (Str × Int)):Prop where
 len:out.length<=i
 nd:(out.map (·.Address)).Nodup
 mp:∀s,mget m s=(posA out s).map fun k=>((k:Nat):Int)
theorem MInv.put{i:Nat}{out:List zba}{m:List (Str × Int)}(h:MInv i out m)(r:zba):MInv (i+1) (putR out r) (if kcb out r.Address then m else mput m r.Address (out.length:Int)):=by
 unfold putR;cases hh:kcb out r.Address with
 | true=>
  simp only[if_true];have hf:∀x:zba,(if V9a r.Address x then (⟨x.Address,iOr x.Notify r.Notify⟩:zba) else x).Address=x.Address:=by intro x;split <;> rfl
  refine ⟨by simp;have:=h.len;omega,?_,fun s=>?_⟩
  .rw[List.map_map,show ((·.Address) ∘ fun x:zba=>if V9a r.Address x then (⟨x.Address,iOr x.Notify r.Notify⟩:zba) else x)=(·.Address) from funext hf];exact h.nd
  rw[posA_map _ _ hf];exact h.mp s
 | false=>
  simp only[jAi,if_false];refine ⟨by simp;exact h.len,?_,fun s=>?_⟩
  .rw[List.map_append,List.nodup_append];refine ⟨h.nd,by simp,?_⟩;intro a ha b hb;simp at hb;subst hb;rintro rfl;obtain ⟨x,hx,hxe⟩:=jCb.1 ha;unfold kcb at hh;rw[jCr]at hh;exact hh x hx (by simp[V9a,hxe])
  rw[qqb,posA_app _ _ _ hh,h.mp s];by_cases hs:(r.Address==s)=true
  .rw[if_pos hs,if_pos hs];rfl
  rw[if_neg hs,if_neg hs]
theorem v9b{m:zHa}(h:zHa.bk m<=1048576):kFb m:=by
 unfold zHa.bk at h;have h1:=QCa (bk:=zka.bk) (fun x=>by unfold zka.bk;omega) m.Fields;have h2:=QCa (bk:=fun _:UInt8=>1) (fun x=>by simp) m.Body;refine ⟨⟨by omega,fun f hf=>?_⟩,by omega⟩;have h5:=z0b (bk:=zka.bk) hf;have h6:zka.bk f=f.Name.length+1+(f.Value.length+1)+1:=rfl;omega
def jRa(m:kia):zsa:=if (envF m.Envelope).Code !=0 then envF m.Envelope else if (msgF m.Message).Code !=0 then ⟨(msgF m.Message).Code, -30⟩ else ⟨0,0⟩
theorem wFa(m:kia)(h1:kEb m.Envelope)(h2:kFb m.Message):qDa m=some (jRa m):=by
 unfold qDa jRa;rw[ZQa _ h1,Koa _ h2];simp only[jAb,z7a,zMa,kDa];cases (envF m.Envelope).Code !=0 <;> cases (msgF m.Message).Code !=0 <;> rfl
theorem wta(t:Int):qMa t=some (decide (-68719476736<=t) && decide (t<=68719476736)):=by
 unfold qMa;by_cases h:(-68719476736:Int)<=t <;> simp[h]
def add1(o:List Str)(x:Str):List Str:=if o.contains x then o else o++ [x]
def Yla(o xs:List Str):List Str:=xs.foldl add1 o
theorem add1_mem(o:List Str)(x y:Str):y∈add1 o x↔y∈o∨y=x:=by
 unfold add1;split
 .rename_i h;simp at h;constructor
  .exact .inl
  rintro (h1 | rfl)
  .exact h1
  exact h
 simp
theorem kdb(o:List Str)(x:Str):o <+:add1 o x:=by
 unfold add1;split
 .exact List.prefix_refl _
 exact List.prefix_append _ _
theorem qAb{o:List Str}(h:o.Nodup)(x:Str):(add1 o x).Nodup:=by
 unfold add1;split
 .exact h
 rename_i hx;simp at hx;rw[List.nodup_append];exact ⟨h,by simp,fun a ha b hb hab=>by simp at hb;subst hb;subst hab;exact hx ha⟩
theorem qBb(xs:List Str):∀(o:List Str) (y:Str),y∈Yla o xs↔y∈o∨y∈xs:=by
 induction xs with
 | nil=>intro o y;simp[Yla]
 | cons x xs ih=>intro o y;show y∈Yla (add1 o x) xs↔_;rw[ih,add1_mem];simp[or_assoc]
theorem Jda(xs:List Str):∀o:List Str,o <+:Yla o xs:=by
 induction xs with
 | nil=>intro o;exact List.prefix_refl _
 | cons x xs ih=>intro o;exact (kdb o x).trans (ih _)
theorem zgb(xs:List Str):∀{o:List Str},o.Nodup->(Yla o xs).Nodup:=by
 induction xs with
 | nil=>intro o h;exact h
 | cons x xs ih=>intro o h;exact ih (qAb h x)
theorem nodup_le{l m:List Str}(hl:l.Nodup)(h:∀x∈l,x∈m):l.length<=m.length:=by
 induction l generalizing m with
 | nil=>simp
 | cons x l ih=>
  have hx:x∈m:=h x (by simp);obtain ⟨hxl,hl'⟩:=jBn.1 hl;have:=ih (m:=m.erase x) hl' (fun y hy=>by
   have hne:y≠x:=by rintro rfl;exact hxl hy
   exact (List.mem_erase_of_ne hne).2 (h y (by simp[hy])))
  rw[List.length_erase_of_mem hx]at this;have:0 < m.length:=List.length_pos_of_mem hx;simp;omega
def tgtO(l:List yLa)(s:Str):Option (List Str):=(l.find? (fun a=>a.Address==s)).map (·.To)
def tgt(l:List yLa)(s:Str):List Str:=(tgtO l s).getD []
def univ(l:List yLa)(from_:List Str):List Str:=from_++l.flatMap (·.To)
theorem tgt_sub(l:List yLa)(s x:Str)(h:x∈tgt l s):∃a∈l,a.Address=s/\x∈a.To:=by
 unfold tgt tgtO at h;cases hf:l.find? (fun a=>a.Address==s) with
 | none=>rw[hf]at h;simp at h
 | some a=>
  rw[hf]at h;have:=List.find?_some hf;exact ⟨a,List.mem_of_find?_eq_some hf,by simpa using this,by simpa using h⟩
structure Inv (l:List yLa) (U:List Str) (k:Nat) (out:List Str):Prop where
 nd:out.Nodup
 sub:∀x∈out,x∈U
 le:k<=out.length
theorem Inv.len{l:List yLa}{U:List Str}{k:Nat}{out:List Str}(h:Inv l U k out):out.length<=U.length:=nodup_le h.nd h.sub
theorem Inv.step{l:List yLa}{from_:List Str}{k:Nat}{out:List Str}(h:Inv l (univ l from_) k out){s:Str}(hs:out[k]? =some s):Inv l (univ l from_) (k+1) (Yla out (tgt l s)):=by
 refine ⟨zgb _ h.nd,fun x hx=>?_,?_⟩
 .rcases (qBb _ _ _).1 hx with h1 | h1
  .exact h.sub x h1
  obtain ⟨a,ha,_,hxa⟩:=tgt_sub l s x h1;exact jCg.2 (.inr (List.mem_flatMap.2 ⟨a,ha,hxa⟩))
 have:=(Jda (tgt l s) out).length_le;have:=z5a hs;omega
theorem kGb{α β:Type}(f:α->β)(l:List α):∀o:List β,l.foldl (fun o x=>o++ [f x]) o=o++l.map f:=by
 induction l with
 | nil=>intro o;simp
 | cons x l ih=>intro o;simp[ih]
instance:DecidableEq zka:=fun a b=>decidable_of_iff (a.Name=b.Name/\a.Value=b.Value) (by cases a;cases b;simp)
instance:DecidableEq zHa:=fun a b=>decidable_of_iff (a.Fields=b.Fields/\a.Body=b.Body) (by cases a;cases b;simp)
instance:DecidableEq kia:=fun a b=>decidable_of_iff (a.Envelope=b.Envelope/\a.Message=b.Message) (by cases a;cases b;simp)
def vza(m:kia):Prop:=kEb m.Envelope/\kFb m.Message
theorem KZa{α:Type}{lim:Nat}(l:List α)(h:l.length<=lim):(nilE l.isEmpty (some ([]:List α)) ((app lim ([]:List α) l).bind fun v=>some v))=some l:=by
 rw[vka (by simpa using h)];simp only[jCt,jAb];exact veb _ _ _ (fun he=>by rw[List.isEmpty_iff.1 he])
theorem Zra(l:List zka)(h:l.length<=1048576):kpa l=some l:=KZa l (by omega)
theorem jna(m:kia)(h:vza m):qea m=some m:=by
 obtain ⟨⟨_,_,h1,_⟩,⟨h2,_⟩,h3⟩:=h;unfold qea;rw[KZa m.Envelope.To (by omega)];simp only[jAb];rw[Zra _ h2,KZa m.Message.Body (by omega)];rfl
theorem Jea{α:Type}{L:List α}{i:Nat}{x:α}(h:L[i]? =some x):L.set i x=L:=by
 apply List.ext_getElem?;intro j;rw[jDt];split
 .rename_i hij;subst hij;split
  .exact h.symm
  rename_i hn;exact absurd (z5a h) hn
 rfl
theorem delAt_eq{α:Type}(L:List α)(k:Nat)(z:α)(hk:k < L.length)(hl:L.length<=1048576):((cut3 L (k:Int) ((w64 ((k:Int)+1))) ((L.length:Int))).bind fun v34=>(bif ((k:Int)==(w64 ((k:Int)+1))) then some L else (cut L 0 (k:Int)).bind fun v37=>(cut L ((w64 ((k:Int)+1))) (L.length:Int)).bind fun v39=>(shft L (k:Int) ((w64 ((k:Int)+1)))).bind fun v41=>(VGa v41 (((((Int.toNat (k:Int))+(L.length - (Int.toNat ((w64 ((k:Int)+1)))))):Nat):Int)) ((L.length:Int))).bind fun v43=>some ((List.take ((Int.toNat (k:Int))+(L.length - (Int.toNat ((w64 ((k:Int)+1)))))) ((clr0 v41 (Int.toNat (((((Int.toNat (k:Int))+(L.length - (Int.toNat ((w64 ((k:Int)+1)))))):Nat):Int))) z))))))=some (L.take k++L.drop (k+1)):=by
 rw[sc k (by omega)];have e1:cut3 L (k:Int) ((k+1:Nat):Int) (L.length:Int)=some ():=by unfold cut3;rw[if_pos ⟨by omega,by omega,by omega,by omega⟩]
 have e2:((k:Int)==((k+1:Nat):Int))=false:=by rw[beq_eq_false_iff_ne];omega
 rw[e1,e2,Z8a (by omega),V3a (by omega)];simp only[jAb,cond_false,jBe];have e3:shft L (k:Int) ((k+1:Nat):Int)=some (L.take k++L.drop (k+1)++L.drop (k+(L.length - (k+1)))):=by
  unfold shft;rw[if_pos ⟨by omega,by omega,by omega⟩];simp only[jBe]
 rw[e3];simp only[jAb];have hlen:(L.take k++L.drop (k+1)++L.drop (k+(L.length - (k+1)))).length=L.length:=by simp;omega
 have e4:VGa (L.take k++L.drop (k+1)++L.drop (k+(L.length - (k+1)))) ((k+(L.length - (k+1)):Nat):Int) (L.length:Int)=some ():=by
  unfold VGa;rw[if_pos ⟨by omega,by omega,by rw[hlen]⟩]
 rw[e4];simp only[jAb];rw[v8b _ _ _ (by rw[hlen];omega)];have e5:(L.take k++L.drop (k+1)).length=k+(L.length - (k+1)):=by simp;omega
 rw[<-e5,List.take_left'];rfl
theorem K0a(m:zHa)(hf:m.Fields.length<=1048576):wha m m=some true:=by
 unfold wha;have e1:((m.Fields.length:Int) !=(m.Fields.length:Int))=false:=by simp
 have e2:(m.Body !=m.Body)=false:=by simp
 rw[e1,e2];simp only[cond_false,jAb];rw[kKa m.Fields (fun _ _=>none) (.inl ()) .inr]
 .have:kCa (fun _ _=>(none:Option Bool)) 0 m.Fields=none:=by rw[q2a];intro i x _;rfl
  simp only[jAb];rw[this];rfl
 .unfold vRa;rw[z6a];rfl
 intro i f hx;have hi:=z5a hx;unfold vRa;rw[kua hx,zEa hx];simp only[cond_true,jAb,sc i (by omega)];simp[qva]
theorem Waa(m:kia)(h1:m.Envelope.To.length<=1048576)(h2:m.Message.Fields.length<=1048576):jda m m=some true:=by
 unfold jda;have e1:(m.Envelope.From !=m.Envelope.From)=false:=by simp
 have e2:(m.Envelope.Id !=m.Envelope.Id)=false:=by simp
 have e3:((m.Envelope.To.length:Int) !=(m.Envelope.To.length:Int))=false:=by simp
 rw[e1,e2,e3];simp only[cond_false,jAb];rw[kKa m.Envelope.To (fun _ _=>none) (.inl ()) .inr]
 .have:kCa (fun _ _=>(none:Option Bool)) 0 m.Envelope.To=none:=by rw[q2a];intro i x _;rfl
  simp only[jAb];rw[this];simp only[Option.elim_none,Sum.elim_inl];rw[K0a _ h2];rfl
 .unfold yaa;rw[z6a];rfl
 intro i f hx;have hi:=z5a hx;unfold yaa;rw[kua hx,zEa hx];simp only[cond_true,jAb,sc i (by omega)];simp[qva]
theorem qCb{m:kia}(h:kia.bk m<=1048576):vza m:=by
 have hb:kia.bk m=zNa.bk m.Envelope+zHa.bk m.Message+1:=rfl;exact ⟨vYb (by omega),v9b (by omega)⟩
def wBad(w:zga)(r:zba):Bool:= !(w.Recipient==r) || (!(w.Result==0) && !(w.Result==1) && !(w.Result==3)) || (w.Busy && !(w.Result==0))
def opnW(w:zga):Bool:=w.Result==0
def Q7a(e:zca):Bool:=decide (e.To.length=e.Mail.Envelope.To.length) && !((e.To.zip e.Mail.Envelope.To).any fun p=>wBad p.1 p.2) && e.To.any opnW
theorem wBad_eq(w:zga)(r:zba):((bif (!(qva [(w.Recipient.Address==r.Address),(w.Recipient.Notify==r.Notify)])) then some true else (bif (w.Result !=0) then (bif (w.Result !=1) then (bif (w.Result !=3) then some true else (bif w.Busy then some ((w.Result !=0)) else some false)) else (bif w.Busy then some ((w.Result !=0)) else some false)) else (bif w.Busy then some ((w.Result !=0)) else some false))):Option Bool)=some (wBad w r):=by
 rw[rec_eq];unfold wBad;by_cases h0:w.Result=0
 .rw[h0];cases w.Recipient==r <;> cases w.Busy <;> rfl
 have e0:(w.Result==0)=false:=beq_eq_false_iff_ne.2 h0;simp only[bne,e0];cases w.Recipient==r <;> cases w.Busy <;> cases w.Result==1 <;> cases w.Result==3 <;> rfl
theorem zip_get{α β:Type}{a:List α}{b:List β}{p:List (α × β)}{x:α × β}{r:List (α × β)}(h:a.zip b=p++x::r):a[p.length]? =some x.1/\b[p.length]? =some x.2:=by
 have:(a.zip b)[p.length]? =some x:=by rw[h];simp
 rw[List.getElem?_zip_eq_some]at this;exact this
theorem wab{β:Type}(q:zga->Bool):∀{a:List zga} {b:List β},a.length=b.length->((a.zip b).any fun p=>q p.1)=a.any q
 | [],_,_=>by simp
 | x::a,[],h=>by simp at h
 | x::a,y::b,h=>by simp only[List.zip_cons_cons,List.any_cons];rw[wab q (by simpa using h)]
theorem j0a(e:zca)(h:e.To.length<=1048576):qVa e=some (Q7a e):=by
 unfold qVa Q7a;by_cases hl:e.To.length=e.Mail.Envelope.To.length
 .rw[show ((e.To.length:Int) !=(e.Mail.Envelope.To.length:Int))=false by rw[hl];simp];simp only[cond_false];have hz:(e.To.zip e.Mail.Envelope.To).length=e.To.length:=by rw[List.length_zip];omega
  have hloop:iter (qta e) (false,0)=some (if (e.To.zip e.Mail.Envelope.To).any (fun p=>wBad p.1 p.2) then .inr false else .inl (false || (e.To.zip e.Mail.Envelope.To).any fun p=>opnW p.1)):=by
   refine KRa (e.To.zip e.Mail.Envelope.To) (fun n s=>(s,(n:Int))) (fun n r s=>(if r.any (fun p=>wBad p.1 p.2) then .inr false else .inl (s || r.any fun p=>opnW p.1):Bool ⊕ Bool)) (fun s=>?_) (fun p x r s hp=>?_) false rfl
   .unfold qta;dsimp only;rw[hz,z6a];simp
   obtain ⟨g1,g2⟩:=zip_get hp;have hlt:=z5a g1;have hb:qta e (s,(p.length:Int))=some (if wBad x.1 x.2 then .out (.inr false) else .cont (s || opnW x.1,((p.length+1:Nat):Int))):=by
    unfold qta q9a;dsimp only;rw[kua g1,zEa g1,zEa g2];simp only[cond_true,jAb,wBad_eq,sc _ (show p.length < 9223372036854775807 by omega)];unfold opnW;cases wBad x.1 x.2 <;> cases s <;> rfl
   rw[hb];cases hw:wBad x.1 x.2 with
   | true=>left;simp[hw]
   | false=>right;exact ⟨_,rfl,by simp only[List.any_cons,hw,jDr,Bool.or_assoc]⟩
  rw[hloop];simp only[jDr,wab opnW hl];rw[decide_eq_true hl];cases (e.To.zip e.Mail.Envelope.To).any (fun p=>wBad p.1 p.2) <;> rfl
 rw[show ((e.To.length:Int) !=(e.Mail.Envelope.To.length:Int))=true by simp;omega,decide_eq_false hl];rfl
def joa(t:Int):Bool:=decide (-68719476736<=t) && decide (t<=68719476736)
def rngQ(e:zca):Bool:=joa e.Since && joa e.Due && decide (0<=e.Tries) && decide (e.Tries<=1000000)
def queR(nx:Int):Nat->Int->List zca->Option zsa
 | _,_,[]=>none
 | i,last,e::r=>if (jRa e.Mail).Code !=0 then some ⟨(jRa e.Mail).Code,i⟩ else if decide (e.Id<=last) || decide (nx<=e.Id) then some ⟨19,i⟩ else if !rngQ e then some ⟨3,i⟩ else if !Q7a e then some ⟨5,i⟩ else queR nx (i+1) e.Id r
theorem K1a(nx:Int)(i:Nat)(last:Int)(e:zca)(r:List zca):queR nx i last (e::r)=if (jRa e.Mail).Code !=0 then some ⟨(jRa e.Mail).Code,i⟩ else if decide (e.Id<=last) || decide (nx<=e.Id) then some ⟨19,i⟩ else if !rngQ e then some ⟨3,i⟩ else if !Q7a e then some ⟨5,i⟩ else queR nx (i+1) e.Id r:=rfl
def queF(q:zva):zsa:=if 20 < q.Entries.length then ⟨2, -1⟩ else if decide (q.Next < 0) || decide (1000000 < q.Next) then ⟨3, -2⟩ else (queR q.Next 0 (-1) q.Entries).getD ⟨0,0⟩
def yta(q:zva):Prop:=q.Entries.length<=1048576/\∀e∈q.Entries,vza e.Mail/\e.To.length<=1048576
theorem jpa(q:zva)(h:yta q):vda q=some (queF q):=by
 unfold vda queF;by_cases h20:20 < q.Entries.length
 .rw[decide_eq_true (show (20:Int) < (q.Entries.length:Int) by omega),if_pos h20];rfl
 rw[decide_eq_false (show ¬(20:Int) < (q.Entries.length:Int) by omega),if_neg h20];simp only[cond_false,jAb];have e1:((bif decide (q.Next < 0) then some true else some (decide (1000000 < q.Next))):Option Bool)=some (decide (q.Next < 0) || decide (1000000 < q.Next)):=by cases decide (q.Next < 0) <;> rfl
 rw[e1];simp only[jAb];cases hn:decide (q.Next < 0) || decide (1000000 < q.Next) with
 | true=>rfl
 | false=>
  simp only[cond_false,jAi,if_false];have hloop:iter (qia q) (-1,0)=some ((queR q.Next 0 (-1) q.Entries).elim (.inl ()) .inr):=by
   refine KRa q.Entries (fun n (s:Int)=>(s,(n:Int))) (fun n r s=>((queR q.Next n s r).elim (.inl ()) .inr:Unit ⊕ zsa)) (fun s=>?_) (fun p x r s hp=>?_) (-1) rfl
   .unfold qia;dsimp only;rw[z6a];rfl
   have hx:q.Entries[p.length]? =some x:=by rw[hp];simp
   have hlt:=z5a hx;obtain ⟨⟨m1,m2⟩,m3⟩:=h.2 x (jAd hx);have hb:qia q (s,(p.length:Int))=some (if (jRa x.Mail).Code !=0 then .out (.inr ⟨(jRa x.Mail).Code,p.length⟩) else if decide (x.Id<=s) || decide (q.Next<=x.Id) then .out (.inr ⟨19,p.length⟩) else if !rngQ x then .out (.inr ⟨3,p.length⟩) else if !Q7a x then .out (.inr ⟨5,p.length⟩) else .cont (x.Id,((p.length+1:Nat):Int))):=by
    unfold qia;dsimp only;rw[kua hx,zEa hx];simp only[cond_true,jAb,wFa x.Mail m1 m2,z7a,zMa,wta,j0a x m3,sc _ (show p.length < 9223372036854775807 by omega)];have e2:decide (x.Tries < 0)= !decide (0<=x.Tries):=by rw[jAz];simp
    have e3:decide ((1000000:Int) < x.Tries)= !decide (x.Tries<=1000000):=by rw[jAz];simp
    rw[e2,e3];unfold rngQ joa;cases (jRa x.Mail).Code !=0 <;> cases decide (x.Id<=s) <;> cases decide (q.Next<=x.Id) <;> cases (decide (-68719476736<=x.Since) && decide (x.Since<=68719476736)) <;> cases (decide (-68719476736<=x.Due) && decide (x.Due<=68719476736)) <;> cases decide (0<=x.Tries) <;> cases decide (x.Tries<=1000000) <;> cases Q7a x <;> rfl
   rw[hb,K1a];split
   .exact .inl rfl
   split
   .exact .inl rfl
   split
   .exact .inl rfl
   split
   .exact .inl rfl
   exact .inr ⟨_,rfl,rfl⟩
  rw[hloop];cases queR q.Next 0 (-1) q.Entries <;> rfl
def wbb(l:List zca):Prop:=l.length<=1048576/\∀e∈l,vza e.Mail/\e.To.length<=1048576
theorem vAa(l:List zca)(h:l.length<=1048576):zWa l=some l:=KZa l (by omega)
theorem jSa(l:List zga)(h:l.length<=1048576):zLa l=some l:=KZa l (by omega)
theorem Wba(L:List zca)(h:wbb L):iter (wTa L) (0,0,L)=some (L,L.length):=by
 refine KRa L (fun n (_:Unit)=>((n:Int),n,L)) (fun n r _=>(L,L.length)) (fun _=>?_) (fun p x r _ hp=>.inr ⟨(),?_,rfl⟩) () rfl
 .unfold wTa;dsimp only;rw[z6a];rfl
 have hx:L[p.length]? =some x:=by rw[hp];simp
 have hlt:=z5a hx;have h0:=h.1;obtain ⟨h1,h2⟩:=h.2 x (jAd hx);unfold wTa;dsimp only;rw[kua hx,zEa hx];simp only[cond_true,jAb,jna x.Mail h1,jSa x.To h2,W5a,qmb,jBe,jBc,if_true,Jea hx,zEa hx,sc _ (show p.length < 9223372036854775807 by omega)]
theorem keb(m:kia)(h:m.Envelope.To.length<=1048576):iter (v3a m) (0,([]:List zga))=some (m.Envelope.To.map fun r=>⟨r,0,false⟩):=by
 have:=(Zpa m.Envelope.To (fun i acc=>(i,acc)) (fun acc r=>acc++ [(⟨r,0,false⟩:zga)]) (fun acc=>acc) (fun i acc=>acc.length=i) (body:=v3a m) (fun s hs=>by unfold v3a;simp[z6a]) (fun i r acc hr hi=>by
  have hlt:=z5a hr;refine ⟨?_,by simp[hi]⟩;unfold v3a;dsimp only;rw[kua hr,zEa hr];simp only[cond_true,jAb,sc i (by omega)];rw[vka (by simp;omega)];rfl) ([]:List zga) rfl).1
 rw[this,kGb (fun r=>(⟨r,0,false⟩:zga))];rfl
def newE(q:zva)(m:kia)(now:Int):zca:=⟨q.Next,m,now,0,now,m.Envelope.To.map fun r=>⟨r,0,false⟩⟩
def addP(q:zva)(m:kia)(now:Int):zva × Int × zsa:=
 if (queF q).Code !=0 then (⟨[],0⟩,0,queF q) else if (jRa m).Code !=0 then (⟨[],0⟩,0,⟨(jRa m).Code, -6⟩) else if !joa now then (⟨[],0⟩,0,⟨3, -7⟩) else
 if q.Entries.length=20∨q.Next=1000000 then (⟨[],0⟩,0,⟨2, -8⟩) else (⟨q.Entries++ [newE q m now],q.Next+1⟩,q.Next,⟨0,0⟩)
theorem Wca{nx:Int}:∀{l:List zca} {i:Nat} {last:Int},queR nx i last l=none->∀e∈l,(jRa e.Mail).Code=0/\last < e.Id/\e.Id < nx/\rngQ e=true/\Q7a e=true
 | [],_,_,_,e,he=>by cases he
 | x::l,i,last,h,e,he=>by
  rw[K1a]at h;split at h
  .cases h
  rename_i h1;split at h
  .cases h
  rename_i h2;split at h
  .cases h
  rename_i h3;split at h
  .cases h
  rename_i h4;simp at h1 h2 h3 h4;rcases jCd.1 he with rfl | he
  .exact ⟨h1,by omega,by omega,h3,h4⟩
  obtain ⟨a,b,c⟩:=Wca h e he;exact ⟨a,by omega,c⟩
theorem kHb{nx:Int}:∀{l:List zca} {i:Nat} {last:Int},queR nx i last l=none->l.Pairwise (fun a b=>a.Id < b.Id)
 | [],_,_,_=>List.Pairwise.nil
 | x::l,i,last,h=>by
  rw[K1a]at h;split at h
  .cases h
  split at h
  .cases h
  split at h
  .cases h
  split at h
  .cases h
  exact List.pairwise_cons.2 ⟨fun e he=>(Wca h e he).2.1,kHb h⟩
structure QueOk (q:zva):Prop where
 n:q.Entries.length<=20
 nx:0<=q.Next/\q.Next<=1000000
 ent:∀e∈q.Entries,(jRa e.Mail).Code=0/\0<=e.Id/\e.Id < q.Next/\rngQ e=true/\Q7a e=true
 ids:q.Entries.Pairwise (fun a b=>a.Id < b.Id)
theorem Wda{q:zva}(h:(queF q).Code=0):QueOk q/\queF q=⟨0,0⟩:=by
 unfold queF at h ⊢;by_cases h20:20 < q.Entries.length
 .rw[if_pos h20]at h;cases h
 rw[if_neg h20]at h ⊢;cases hn:decide (q.Next < 0) || decide (1000000 < q.Next) with
 | true=>rw[hn]at h;cases h
 | false=>
  rw[hn]at h;simp only[jAi,if_false]at h ⊢;cases hr:queR q.Next 0 (-1) q.Entries with
  | none=>
   refine ⟨⟨by omega,by simp at hn;omega,fun e he=>?_,kHb hr⟩,rfl⟩;obtain ⟨a,b,c⟩:=Wca hr e he;exact ⟨a,by omega,c⟩
  | some f=>
   exfalso;rw[hr]at h;simp only[jBr]at h;have aux:∀(l:List zca) (i:Nat) (last:Int),queR q.Next i last l=some f->f.Code≠0:=by
    intro l;induction l with
    | nil=>intro i last hh;cases hh
    | cons x l ih=>
     intro i last hh;rw[K1a]at hh;split at hh
     .rename_i h1;cases hh;simpa using h1
     split at hh
     .cases hh;show (19:Int)≠0;decide
     split at hh
     .cases hh;show (3:Int)≠0;decide
     split at hh
     .cases hh;show (5:Int)≠0;decide
     exact ih _ _ hh
   exact aux _ _ _ hr h
theorem zhb(q:zva)(m:kia)(now:Int)(hq:yta q)(hm:vza m):Zna q m now=some (addP q m now):=by
 unfold Zna addP;rw[jpa q hq];simp only[jAb,z7a,zMa,kDa,wta];by_cases hc:(queF q).Code=0
 .obtain ⟨ok,hF⟩:=Wda hc;have h1:((queF q).Code !=0)=false:=by simp[hc]
  have hn:=ok.n;have hnx:=ok.nx;have hto:=hm.1.2.2.1;rw[h1,wFa m hm.1 hm.2];simp only[jAb,cond_false,jAi,if_false];cases hmc:(jRa m).Code !=0 with
  | true=>rfl
  | false=>
   simp only[cond_false,jAi,if_false];show (bif !joa now then _ else _)=_;cases joa now with
   | false=>rfl
   | true=>
    simp only[jBh,cond_false,jAi,if_false];have e1:((bif ((q.Entries.length:Int)==20) then some true else some ((q.Next==1000000))):Option Bool)=some (decide (q.Entries.length=20∨q.Next=1000000)):=by
     by_cases h20:q.Entries.length=20
     .rw[h20];simp
     rw[show ((q.Entries.length:Int)==20)=false by rw[beq_eq_false_iff_ne];omega];simp only[cond_false,Option.some.injEq];rw[jAz];simp[h20]
    rw[e1];simp only[jAb];by_cases hl:q.Entries.length=20∨q.Next=1000000
    .rw[decide_eq_true hl,if_pos hl];rfl
    rw[decide_eq_false hl,if_neg hl];simp only[cond_false];rw[vAa _ hq.1];simp only[jAb];rw[Wba _ hq];simp only[jAb];rw[jna m hm,keb m hto];simp only[jAb,nall,if_true];rw[vka (by simp;omega),v1a (by omega) (by omega)];rfl
 have h1:((queF q).Code !=0)=true:=by simpa using hc
 rw[h1];rfl
theorem bindC{α β:Type}{o:Option α}{v:α}{f:α->Option β}{r:Option β}(h:o=some v)(h2:f v=r):o.bind f=r:=by rw[h];exact h2
theorem wcb(a b:List UInt8)(h:a.length+b.length<=35184372088832):kRa [a,b]=some (a++b):=by
 have l1:iter (ksa [a,b]) (0,0)=some ((a.length+b.length:Nat):Int):=by
  have s1:ksa [a,b] (0,0)=some (.cont ((a.length:Int),1)):=by
   show (bif decide (w64 ((0:Int)+(a.length:Int)) < 0) then none else some (Step.cont (w64 ((0:Int)+(a.length:Int)),w64 ((0:Int)+1))):Option (Step (Int × Int) Int))=_;rw[show w64 ((0:Int)+(a.length:Int))=(a.length:Int) by rw[v1a (by omega) (by omega)];omega,decide_eq_false (by omega)];rfl
  have s2:ksa [a,b] ((a.length:Int),1)=some (.cont (((a.length+b.length:Nat):Int),2)):=by
   show (bif decide (w64 ((a.length:Int)+(b.length:Int)) < 0) then none else some (Step.cont (w64 ((a.length:Int)+(b.length:Int)),w64 ((1:Int)+1))):Option (Step (Int × Int) Int))=_;rw[Yaa _ _ (by omega),decide_eq_false (by omega)];rfl
  rw[z1a s1,z1a s2];exact zSa rfl
 have hl2:∀s:List UInt8,s.length=0->iter (kta [a,b]) (0,s)=some (a++b):=by
  intro s hs;have hs0:s=[]:=jBm hs;subst hs0;have s1:kta [a,b] (0,[])=some (.cont (1,a)):=by
   show ((app 140737488355328 [] a).bind fun v20=>some (Step.cont (w64 ((0:Int)+1),v20)):Option (Step (Int × List UInt8) (List UInt8)))=_;rw[vka (by simp;omega)];rfl
  have s2:kta [a,b] (1,a)=some (.cont (2,a++b)):=by
   show ((app 140737488355328 a b).bind fun v20=>some (Step.cont (w64 ((1:Int)+1),v20)):Option (Step (Int × List UInt8) (List UInt8)))=_;rw[vka (by omega)];rfl
  rw[z1a s1,z1a s2];exact zSa rfl
 unfold kRa;rw[l1];simp only[jAb];rw[decide_eq_false (show ¬((a.length+b.length:Nat):Int) < 0 by omega),show w64 (((a.length+b.length:Nat):Int) - w64 (0 - 0))=((a.length+b.length:Nat):Int) by rw[show w64 (0 - 0)=0 from rfl,v1a (by omega) (by omega)];omega];simp only[cond_false];by_cases h0:a.length+b.length=0
 .rw[decide_eq_false (by omega)];have e1:a=[]:=jBm (by omega);have e2:b=[]:=jBm (by omega);subst e1;subst e2;simp only[cond_false];refine bindC (v:=[]) ?_ rfl;rw[z1a (show kVa [([]:List UInt8),[]] (0,[])=some (.cont (1,[])) from rfl),z1a (show kVa [([]:List UInt8),[]] (1,[])=some (.cont (2,[])) from rfl)];exact zSa rfl
 rw[decide_eq_true (by omega)];simp only[cond_true];unfold zrep;rw[if_pos (by omega)];simp only[jAb];rw[show cut (List.replicate ((a.length+b.length:Nat):Int).toNat (0:UInt8)) 0 0=some [] from (Z8a (b:=0) (by simp)).trans (by simp)];simp only[jAb];rw[hl2 [] rfl];rfl
def spR(r:zba):List UInt8:=encT r.Address++num8 r.Notify
def spF(f:zka):List UInt8:=encT f.Name++encT f.Value
def spRs(l:List zba):List UInt8:=num8 (l.length:Int)++l.flatMap spR
def spFs(l:List zka):List UInt8:=num8 (l.length:Int)++l.flatMap spF
def spM(m:kia):List UInt8:=encT m.Envelope.From++spRs m.Envelope.To++encT m.Envelope.Id++spFs m.Message.Fields++encT m.Message.Body
def spA(r:zea):List UInt8:=num8 r.Attempt.Entry++encT r.Attempt.Domain++J9a r.Attempt.To++J9a r.Results
def spB(r:zea):List UInt8:=num8 r.Kind++num8 r.Now++(if r.Kind==1 then spM r.Mail else spA r)
def spE(r:zea):List UInt8:=encT (spB r)++num8 (w64 (sumB (spB r)))
structure kha (r:zea):Prop where
 mail:vza r.Mail
 dom:r.Attempt.Domain.length<=1048576
 to:r.Attempt.To.length<=1048576
 res:r.Results.length<=1048576
theorem Jfa{α:Type}(f:α->List UInt8)(B:Nat):∀l:List α,(∀x∈l,(f x).length<=B)->(l.flatMap f).length<=l.length * B
 | [],_=>by simp
 | x::l,h=>by
  have h1:=Jfa f B l (fun y hy=>h y (by simp[hy]));have h2:=h x (by simp);rw[jCe,jAf,jCl,jAv];omega
theorem kfb{r:zba}(h:r.Address.length<=1048576):(spR r).length<=2097152:=by
 unfold spR;rw[jAf,kLa,zVa];omega
theorem kgb{f:zka}(h1:f.Name.length<=1048576)(h2:f.Value.length<=1048576):(spF f).length<=4194304:=by
 unfold spF;rw[jAf,kLa,kLa];omega
theorem yua{m:kia}(h:vza m):m.Envelope.To.length<=1048576/\∀r∈m.Envelope.To,r.Address.length<=1048576:=by
 have:=h.1.2.2;exact ⟨this.1,this.2⟩
theorem jqa{m:kia}(h:vza m):m.Message.Fields.length<=1048576/\∀f∈m.Message.Fields,f.Name.length<=1048576/\f.Value.length<=1048576:=by
 have:=h.2.1;exact ⟨this.1,this.2⟩
theorem Jga{m:kia}(h:vza m):(spRs m.Envelope.To).length<=2199023255560:=by
 obtain ⟨h1,h2⟩:=yua h;have:=Jfa spR 2097152 m.Envelope.To (fun r hr=>kfb (h2 r hr));unfold spRs;rw[jAf,zVa];have h3:=jAo 2097152 h1;omega
theorem Jha{m:kia}(h:vza m):(spFs m.Message.Fields).length<=4398046511112:=by
 obtain ⟨h1,h2⟩:=jqa h;have:=Jfa spF 4194304 m.Message.Fields (fun f hf=>kgb (h2 f hf).1 (h2 f hf).2);unfold spFs;rw[jAf,zVa];have h3:=jAo 4194304 h1;omega
theorem zib(l:List Int):(J9a l).length=8+8 * l.length:=by
 unfold J9a;rw[jAf,zVa,KSa]
theorem Kpa{r:zea}(h:kha r):(spB r).length<=17592186044416:=by
 have h1:=Jga h.mail;have h2:=Jha h.mail;have h3:=h.mail.1.1;have h4:=h.mail.1.2.1;have h5:=h.mail.2.2;have h6:=h.dom;have h7:=h.to;have h8:=h.res;unfold spB;split
 .unfold spM;simp only[jAf,zVa,kLa];omega
 unfold spA;simp only[jAf,zVa,kLa,zib];omega
theorem QEa{α:Type}(l:List α)(f:α->List UInt8)(B0 B:Nat)(hB:B0+l.length * B<=26388279066624)(hf:∀x∈l,(f x).length<=B){A:Type}(mk:List UInt8->A){body:Int × A->Option (Step (Int × A) A)}
 (h0:∀s,body ((l.length:Int),mk s)=some (.out (mk s))) (h1:∀(i:Nat) x s,l[i]? =some x->s.length<=26388279066624->body ((i:Int),mk s)=some (.cont (((i+1:Nat):Int),mk (s++f x)))) (s:List UInt8) (hs:s.length<=B0):
 iter body (0,mk s)=some (mk (s++l.flatMap f)):=by
 refine QAa l (fun n (s:List UInt8)=>((n:Int),mk s)) (fun n r s=>mk (s++r.flatMap f)) (fun n r s=>s.length<=B0+n * B) (fun s _=>?_) (fun p x r s hp hi=>.inr ?_) s rfl (by simpa using hs)
 .rw[h0];simp
 have hx:l[p.length]? =some x:=by rw[hp];simp
 have hlt:=z5a hx;have hm:p.length * B<=l.length * B:=jAo _ (by omega);have hfx:=hf x (jAd hx);refine ⟨s++f x,h1 _ x s hx (by omega),by simp,?_⟩;rw[jAf,jAv];omega
theorem wnum8(n:Int)(o:List UInt8)(h:o.length<=70368744177664):iter (kba n) (0,zma.mk o)=some ⟨o++num8 n⟩:=by
 have:=J8a n rfl 8 0 o rfl (by omega);rw[show iter (kba n) (0,zma.mk o)=_ from this];simp[num8]
theorem Jia(r:zea)(h:kha r):jia r=some (spB r):=by
 obtain ⟨t1,t2⟩:=yua h.mail;obtain ⟨f1,f2⟩:=jqa h.mail;have l1:=Jga h.mail;have l2:=Jha h.mail;have h3:=h.mail.1.1;have h4:=h.mail.1.2.1;have h5:=h.mail.2.2;have h6:=h.dom;have h7:=h.to;have h8:=h.res;unfold jia spB;rw[zUa _ _ (by simp)];simp only[jAb,jCt];rw[zUa _ _ (by rw[zVa];omega)];simp only[jAb];have c0:(num8 r.Kind++num8 r.Now).length=16:=by rw[jAf,zVa,zVa]
 generalize num8 r.Kind++num8 r.Now=o at c0;cases hk:r.Kind==1 with
 | true=>
  simp only[cond_true,if_true];rw[kka _ _ (by dsimp only;omega) (by omega)];simp only[jAb];have c1:(o++encT r.Mail.Envelope.From).length<=1048600:=by rw[jAf,kLa];omega
  rw[zUa _ _ (by dsimp only;omega)];simp only[jAb];have c2:(o++encT r.Mail.Envelope.From++num8 (r.Mail.Envelope.To.length:Int)).length<=1048608:=by rw[jAf,zVa];omega
  have m1:=jAo 2097152 t1;rw[QEa r.Mail.Envelope.To spR 1048608 2097152 (by omega) (fun x hx=>kfb (t2 x hx)) zma.mk (body:=wma r) (fun s=>by unfold wma;dsimp only;rw[z6a];rfl) (fun i x s hx hs=>by
   have hi:=z5a hx;have hxa:=t2 x (jAd hx);unfold wma;dsimp only;rw[kua hx,zEa hx];simp only[cond_true,jAb];rw[kka _ _ (by dsimp only;omega) (by omega)];simp only[jAb];rw[zUa _ _ (by dsimp only;rw[jAf,kLa];omega)];simp only[jAb,sc i (by omega)];unfold spR;rw[jAp]) _ c2]
  simp only[jAb];have c3:(o++encT r.Mail.Envelope.From++num8 (r.Mail.Envelope.To.length:Int)++r.Mail.Envelope.To.flatMap spR).length<=2199024304200:=by
   unfold spRs at l1;rw[jAf]at l1;rw[jAf];omega
  rw[kka _ _ (by dsimp only;omega) (by omega)];simp only[jAb];rw[zUa _ _ (by dsimp only;rw[jAf,kLa];omega)];simp only[jAb];have m2:=jAo 4194304 f1;rw[QEa r.Mail.Message.Fields spF 2199025352800 4194304 (by omega) (fun x hx=>kgb (f2 x hx).1 (f2 x hx).2) zma.mk (body:=wna r) (fun s=>by unfold wna;dsimp only;rw[z6a];rfl) (fun i x s hx hs=>by
   have hi:=z5a hx;obtain ⟨hx1,hx2⟩:=f2 x (jAd hx);unfold wna;dsimp only;rw[kua hx,zEa hx];simp only[cond_true,jAb];rw[kka _ _ (by dsimp only;omega) (by omega)];simp only[jAb];rw[kka _ _ (by dsimp only;rw[jAf,kLa];omega) (by omega)];simp only[jAb,sc i (by omega)];unfold spF;rw[jAp]) _ (by rw[jAf,jAf,zVa,kLa];omega)]
  simp only[jAb];rw[kka _ _ (by
   dsimp only;unfold spFs at l2;rw[jAf]at l2;simp only[jAf,zVa,kLa]at c3 ⊢;omega) (by omega)]
  unfold spM spRs spFs;simp[jAp]
 | false=>
  simp only[cond_false,jAi,if_false];rw[zUa _ _ (by dsimp only;omega)];simp only[jAb];rw[kka _ _ (by dsimp only;rw[jAf,zVa];omega) (by omega)];simp only[jAb];have c1:(o++num8 r.Attempt.Entry++encT r.Attempt.Domain).length<=1048700:=by simp only[jAf,zVa,kLa];omega
  rw[zUa _ _ (by dsimp only;omega)];simp only[jAb];rw[QEa r.Attempt.To num8 1048800 8 (by omega) (fun x hx=>by rw[zVa];omega) zma.mk (body:=woa r) (fun s=>by unfold woa;dsimp only;rw[z6a];rfl) (fun i x s hx hs=>by
   have hi:=z5a hx;unfold woa;dsimp only;rw[kua hx,zEa hx];simp only[cond_true,jAb];rw[show iter (jMa x) (0,zma.mk s)=some ⟨s++num8 x⟩ from wnum8 x s (by omega)];simp only[jAb,sc i (by omega)]) _ (by rw[jAf,zVa];omega)]
  simp only[jAb];rw[zUa _ _ (by dsimp only;rw[jAf,jAf,zVa,KSa];omega)];simp only[jAb];rw[QEa r.Results num8 9437500 8 (by omega) (fun x hx=>by rw[zVa];omega) zma.mk (body:=wpa r) (fun s=>by unfold wpa;dsimp only;rw[z6a];rfl) (fun i x s hx hs=>by
   have hi:=z5a hx;unfold wpa;dsimp only;rw[kua hx,zEa hx];simp only[cond_true,jAb];rw[show iter (jNa x) (0,zma.mk s)=some ⟨s++num8 x⟩ from wnum8 x s (by omega)];simp only[jAb,sc i (by omega)]) _ (by simp only[jAf,zVa,KSa]at c1 ⊢;omega)]
  unfold spA J9a;simp[jAp]
theorem yva(r:zea)(h:kha r):v4a r=some (spE r):=by
 have hl:=Kpa h;unfold v4a spE;rw[Jia r h];simp only[jAb];rw[kka _ _ (by simp) (by omega)];simp only[jAb];rw[QSa _ (by omega)];simp only[jAb];rw[zUa _ _ (by dsimp only;rw[jAf,kLa];simp;omega)];rfl
theorem jra(r:zea)(h:kha r):qEa r=some (spE r):=by
 obtain ⟨t1,t2⟩:=yua h.mail;obtain ⟨f1,f2⟩:=jqa h.mail;have l1:=Jga h.mail;have l2:=Jha h.mail;have h3:=h.mail.1.1;have h4:=h.mail.1.2.1;have h5:=h.mail.2.2;have h6:=h.dom;have h7:=h.to;have h8:=h.res;have hlB:=Kpa h;unfold qEa;rw[qga _ _ (by simp)];simp only[jAb,jCt];rw[qga _ _ (by rw[zVa];omega)];simp only[jAb];have c0:(num8 r.Kind++num8 r.Now).length=16:=by rw[jAf,zVa,zVa]
 generalize ho:num8 r.Kind++num8 r.Now=o at c0;have hb:∀{X:Option (List UInt8)} {F:List UInt8->Option (List UInt8)},X=some (spB r)->F (spB r)=some (spE r)->X.bind F=some (spE r):=by
  intro X F h1 h2;rw[h1];exact h2
 refine hb ?_ ?_
 .unfold spB;rw[ho];cases hk:r.Kind==1 with
  | true=>
   simp only[cond_true,if_true];rw[v7a _ _ (by omega) (by omega)];simp only[jAb];have c1:(o++encT r.Mail.Envelope.From).length<=1048600:=by rw[jAf,kLa];omega
   rw[qga _ _ (by omega)];simp only[jAb];have c2:(o++encT r.Mail.Envelope.From++num8 (r.Mail.Envelope.To.length:Int)).length<=1048608:=by rw[jAf,zVa];omega
   have m1:=jAo 2097152 t1;rw[show iter (qja r) (0,o++encT r.Mail.Envelope.From++num8 (r.Mail.Envelope.To.length:Int))=_ from QEa r.Mail.Envelope.To spR 1048608 2097152 (by omega) (fun x hx=>kfb (t2 x hx)) id (body:=qja r) (fun s=>by unfold qja;dsimp only[id];rw[z6a];rfl) (fun i x s hx hs=>by
    have hi:=z5a hx;have hxa:=t2 x (jAd hx);unfold qja;dsimp only[id];rw[kua hx,zEa hx];simp only[cond_true,jAb];rw[v7a _ _ (by omega) (by omega)];simp only[jAb];rw[qga _ _ (by rw[jAf,kLa];omega)];simp only[jAb,sc i (by omega)];unfold spR;rw[jAp]) _ c2]
   simp only[jAb,id];have c3:(o++encT r.Mail.Envelope.From++num8 (r.Mail.Envelope.To.length:Int)++r.Mail.Envelope.To.flatMap spR).length<=2199024304200:=by
    unfold spRs at l1;rw[jAf]at l1;rw[jAf];omega
   rw[v7a _ _ (by omega) (by omega)];simp only[jAb];rw[qga _ _ (by rw[jAf,kLa];omega)];simp only[jAb];have m2:=jAo 4194304 f1;generalize hq:o++encT r.Mail.Envelope.From++num8 (r.Mail.Envelope.To.length:Int)++r.Mail.Envelope.To.flatMap spR++encT r.Mail.Envelope.Id++num8 (r.Mail.Message.Fields.length:Int)=o2;have c4:o2.length<=2199025352800:=by rw[<-hq,jAf,jAf,zVa,kLa];omega
   rw[show iter (qka r) (0,o2)=_ from QEa r.Mail.Message.Fields spF 2199025352800 4194304 (by omega) (fun x hx=>kgb (f2 x hx).1 (f2 x hx).2) id (body:=qka r) (fun s=>by unfold qka;dsimp only[id];rw[z6a];rfl) (fun i x s hx hs=>by
    have hi:=z5a hx;obtain ⟨hx1,hx2⟩:=f2 x (jAd hx);unfold qka;dsimp only[id];rw[kua hx,zEa hx];simp only[cond_true,jAb];rw[v7a _ _ (by omega) (by omega)];simp only[jAb];rw[v7a _ _ (by rw[jAf,kLa];omega) (by omega)];simp only[jAb,sc i (by omega)];unfold spF;rw[jAp]) _ c4]
   simp only[jAb,id];rw[v7a _ _ (by
    unfold spFs at l2;rw[jAf]at l2;rw[jAf];omega) (by omega)]
   rw[<-hq];unfold spM spRs spFs;simp[jAp]
  | false=>
   simp only[cond_false,jAi,if_false];rw[qga _ _ (by omega)];simp only[jAb];rw[v7a _ _ (by rw[jAf,zVa];omega) (by omega)];simp only[jAb];rw[KTa _ _ (by simp only[jAf,zVa,kLa];omega) (by omega)];simp only[jAb];rw[KTa _ _ (by simp only[jAf,zVa,kLa,zib];omega) (by omega)];unfold spA;simp[jAp]
 unfold spE;rw[v7a _ _ (by simp) (by omega)];simp only[jAb];rw[WDa _ (by omega)];simp only[jAb];rw[qga _ _ (by rw[jAf,kLa];simp;omega)];simp
theorem Yma{K V:Type}[BEq K][LawfulBEq K](m:List (K × V))(k:K)(v:V)(x:K):mget (mput m k v) x=if k==x then some v else mget m x:=by
 induction m with
 | nil=>rfl
 | cons p m ih=>
  obtain ⟨k',v'⟩:=p;unfold mput;by_cases h:k' =k
  .subst h;simp only[beq_self_eq_true,if_true,mget];cases k' ==x <;> simp
  have h1:(k' ==k)=false:=by simpa using h
  rw[h1];simp only[jAi,if_false,mget];rw[ih];by_cases h2:k' =x
  .subst h2;have:(k==k')=false:=by simpa using fun h' =>h h'.symm
   simp[this]
  have:(k' ==x)=false:=by simpa using h2
  rw[this];simp
def wDom(w:zga):Str:=kbb w.Recipient.Address
def Zsa(l:List zga):Prop:=l.length<=1048576/\∀w∈l,w.Recipient.Address.length<=1048576
def uwL(l:List zga)(d:Str):Bool:=l.any fun w=>w.Busy && wDom w==d
def uwP(e:zca)(d:Str):Bool:=uwL e.To d
def Kqa(l:List zca)(d:Str):Nat:=l.countP fun e=>uwP e d
theorem Zta(s:Str)(h:s.length<=1048576):vva s=some (kbb s):=by
 unfold vva;rw[jma s (by omega)];simp only[jAb,qzb]
theorem wdb(l:List zca)(d:Str):Kqa l d<=l.length:=List.countP_le_length
theorem qDb(e:zca)(h:Zsa e.To)(u0:List ((Int × Str) × Bool))(m0:List (Str × Int))(hu:∀d,(mget u0 (e.Id,d)).getD false=false)(hm:∀d,0<=(mget m0 d).getD 0/\(mget m0 d).getD 0<=1048576):
 ∃u m,iter (vea e) (0,u0,m0)=some (u,m)/\(∀id d,(mget u (id,d)).getD false=(id==e.Id && uwP e d || (mget u0 (id,d)).getD false))/\∀d,(mget m d).getD 0=(mget m0 d).getD 0+(if uwP e d then 1 else 0):=by
 have h0:=h.1;have key:∀r p u m,e.To=p++r->(∀id d,(mget u (id,d)).getD false=(id==e.Id && uwL p d || (mget u0 (id,d)).getD false))->(∀d,(mget m d).getD 0=(mget m0 d).getD 0+(if uwL p d then 1 else 0))->
  ∃u2 m2,iter (vea e) ((p.length:Int),u,m)=some (u2,m2)/\(∀id d,(mget u2 (id,d)).getD false=(id==e.Id && uwP e d || (mget u0 (id,d)).getD false))/\∀d,(mget m2 d).getD 0=(mget m0 d).getD 0+(if uwP e d then 1 else 0):=by
  intro r;induction r with
  | nil=>
   intro p u m hp h1 h2;obtain rfl:e.To=p:=by simpa using hp
   refine ⟨u,m,zSa ?_,h1,h2⟩;unfold vea;dsimp only;rw[z6a];rfl
  | cons w r ih=>
   intro p u m hp h1 h2;have hx:e.To[p.length]? =some w:=by rw[hp];simp
   have hlt:=z5a hx;have hun:∀d,uwL (p++ [w]) d=(uwL p d || (w.Busy && wDom w==d)):=fun d=>by unfold uwL;simp
   have hb:vea e ((p.length:Int),u,m)=some (.cont (((p.length+1:Nat):Int),if w.Busy && !uwL p (wDom w) then mput u (e.Id,wDom w) true else u,if w.Busy && !uwL p (wDom w) then mput m (wDom w) ((mget m (wDom w)).getD 0+1) else m)):=by
    unfold vea;dsimp only;rw[kua hx,zEa hx];simp only[cond_true,jAb,Zta _ (h.2 w (jAd hx)),sc _ (show p.length < 9223372036854775807 by omega)];have e1:(mget u (e.Id,kbb w.Recipient.Address)).getD false=uwL p (wDom w):=by
     have:=h1 e.Id (wDom w);rw[hu]at this;have h3:(mget u (e.Id,wDom w)).getD false=uwL p (wDom w):=by simpa using this
     exact h3
    rw[e1];have e2:w64 ((mget m (kbb w.Recipient.Address)).getD 0+1)=(mget m (wDom w)).getD 0+1:=by
     have:=h2 (wDom w);have:=hm (wDom w);refine v1a ?_ ?_
     .show _<=(mget m (wDom w)).getD 0+1;split at * <;> omega
     show (mget m (wDom w)).getD 0+1<=_;split at * <;> omega
    rw[e2];cases w.Busy <;> cases uwL p (wDom w) <;> rfl
   rw[z1a hb];have:=ih (p++ [w]) (if w.Busy && !uwL p (wDom w) then mput u (e.Id,wDom w) true else u) (if w.Busy && !uwL p (wDom w) then mput m (wDom w) ((mget m (wDom w)).getD 0+1) else m) (by simp[hp]) (fun id d=>by
    rw[hun];cases hc:w.Busy && !uwL p (wDom w) with
    | true=>
     simp only[jAr,jBy]at hc;rw[if_pos rfl,Yma];by_cases hk:(e.Id,wDom w)=(id,d)
     .cases hk;simp[hc.1]
     have hk' :((e.Id,wDom w)==(id,d))=false:=beq_eq_false_iff_ne.2 hk;rw[hk'];simp only[jAi,if_false];rw[h1];by_cases hi:id=e.Id
     .subst hi;have hd:(wDom w==d)=false:=beq_eq_false_iff_ne.2 fun h=>hk (by rw[h])
      simp[hd]
     have:(id==e.Id)=false:=beq_eq_false_iff_ne.2 hi;simp[this]
    | false=>
     rw[if_neg (by decide),h1];cases hbz:w.Busy with
     | false=>simp
     | true=>
      rw[hbz]at hc;simp only[jDq,Bool.not_eq_eq_eq_not,Bool.not_false]at hc;by_cases hd:wDom w=d
      .subst hd;simp[hc]
      have:(wDom w==d)=false:=beq_eq_false_iff_ne.2 hd;simp[this]) (fun d=>by
    rw[hun];cases hc:w.Busy && !uwL p (wDom w) with
    | true=>
     simp only[jAr,jBy]at hc;rw[if_pos rfl,Yma];by_cases hk:wDom w=d
     .subst hk;simp only[beq_self_eq_true,if_true,jBr];rw[h2,hc.1,hc.2];simp
     have hk' :(wDom w==d)=false:=beq_eq_false_iff_ne.2 hk;rw[hk'];simp only[jAi,if_false];rw[h2];simp
    | false=>
     rw[if_neg (by decide),h2];cases hbz:w.Busy with
     | false=>simp
     | true=>
      rw[hbz]at hc;simp only[jDq,Bool.not_eq_eq_eq_not,Bool.not_false]at hc;by_cases hd:wDom w=d
      .subst hd;simp[hc]
      have:(wDom w==d)=false:=beq_eq_false_iff_ne.2 hd;simp[this])
   simpa using this
 exact key e.To [] u0 m0 rfl (fun id d=>by simp[uwL]) (fun d=>by simp[uwL])
theorem busy_eq(q:zva)(hl:q.Entries.length<=20)(h:∀e∈q.Entries,Zsa e.To)(hid:q.Entries.Pairwise (fun a b=>a.Id < b.Id)):
 ∃u m,iter (vNa q) (0,([]:List ((Int × Str) × Bool)),([]:List (Str × Int)))=some (u,m)/\(∀id d,(mget u (id,d)).getD false=q.Entries.any fun e=>id==e.Id && uwP e d)/\∀d,(mget m d).getD 0=(Kqa q.Entries d:Int):=by
 have key:∀r p u m,q.Entries=p++r->(∀id d,(mget u (id,d)).getD false=p.any fun e=>id==e.Id && uwP e d)->(∀d,(mget m d).getD 0=(Kqa p d:Int))->
  ∃u2 m2,iter (vNa q) ((p.length:Int),u,m)=some (u2,m2)/\(∀id d,(mget u2 (id,d)).getD false=q.Entries.any fun e=>id==e.Id && uwP e d)/\∀d,(mget m2 d).getD 0=(Kqa q.Entries d:Int):=by
  intro r;induction r with
  | nil=>
   intro p u m hp h1 h2;have hp' :q.Entries=p:=by simpa using hp
   refine ⟨u,m,zSa ?_,by rw[hp'];exact h1,by rw[hp'];exact h2⟩;unfold vNa;dsimp only;rw[<-hp',z6a];rfl
  | cons e r ih=>
   intro p u m hp h1 h2;have hx:q.Entries[p.length]? =some e:=by rw[hp];simp
   have hlt:=z5a hx;obtain ⟨u',m',hin,i1,i2⟩:=qDb e (h e (jAd hx)) u m (fun d=>by
    rw[h1,jCr];intro x hxp hc;rw[hp,List.pairwise_append]at hid;have:=hid.2.2 x hxp e (by simp);simp at hc;omega) (fun d=>by
    rw[h2];have:=wdb p d;have:p.length<=20:=by rw[hp]at hl;simp at hl;omega
    omega)
   have hb:vNa q ((p.length:Int),u,m)=some (.cont (((p.length+1:Nat):Int),u',m')):=by
    unfold vNa;dsimp only;rw[kua hx,zEa hx];simp only[cond_true,jAb,hin,sc _ (show p.length < 9223372036854775807 by omega)]
   rw[z1a hb];have:=ih (p++ [e]) u' m' (by simp[hp]) (fun id d=>by
    rw[i1,h1,List.any_append];simp[Bool.or_comm]) (fun d=>by
    have e1:Kqa (p++ [e]) d=Kqa p d+(if uwP e d then 1 else 0):=by
     unfold Kqa;rw[List.countP_append,List.countP_cons,List.countP_nil];simp
    rw[i2,h2,e1];split <;> simp)
   simpa using this
 exact key q.Entries [] [] [] rfl (fun id d=>by simp[mget]) (fun d=>by simp[mget,Kqa])
section
section
variable {α:Type} (key:α->Int)
end
end
theorem id_inj:∀{l:List zca},l.Pairwise (fun a b=>a.Id < b.Id)->∀x∈l,∀y∈l,x.Id=y.Id->x=y
 | [],_,x,hx,_,_,_=>by cases hx
 | a::l,h,x,hx,y,hy,he=>by
  obtain ⟨h1,h2⟩:=List.pairwise_cons.1 h;rcases jCd.1 hx with rfl | hx' <;> rcases jCd.1 hy with rfl | hy'
  .rfl
  .have:=h1 y hy';omega
  .have:=h1 x hx';omega
  exact id_inj h2 x hx' y hy' he
def w0a(q:zva):Prop:=∀e∈q.Entries,Zsa e.To
def posI(l:List zca)(id:Int):Int:=(kCa (fun i x=>if x.Id==id then some ((i:Nat):Int) else none) 0 l).getD (-1)
theorem web(l:List zca)(id:Int):(posI l id= -1/\∀x∈l,x.Id≠id)∨∃(n:Nat) (x:zca),posI l id=(n:Int)/\l[n]? =some x/\x.Id=id:=by
 unfold posI;cases hf:kCa (fun i x=>if x.Id==id then some ((i:Nat):Int) else none) 0 l with
 | none=>
  left;refine ⟨rfl,fun x hx he=>?_⟩;rw[q2a]at hf;obtain ⟨i,hi⟩:=List.mem_iff_getElem?.1 hx;have:=hf i x hi;simp[he]at this
 | some z=>
  right;obtain ⟨i,x,h1,h2⟩:=Kna hf;by_cases he:x.Id=id
  .simp[he]at h2;exact ⟨i,x,by simp[<-h2],h1,he⟩
  simp[he]at h2
def toR(e:zca)(dom:Str)(on:Bool):Nat->Int->List Int->Option zsa
 | _,_,[]=>none
 | i,last,k::r=>if decide (k<=last) || decide ((e.To.length:Int)<=k) then some ⟨3,i⟩ else match e.To[k.toNat]? with
  | none=>none
  | some w=>if wDom w !=dom then some ⟨5,i⟩ else if w.Result !=0 || w.Busy !=on then some ⟨8,i⟩ else toR e dom on (i+1) k r
def attP(q:zva)(a:zwa)(on:Bool):Int × zsa:=
 if posI q.Entries a.Entry= -1 then (0,⟨6, -3⟩) else match q.Entries[(posI q.Entries a.Entry).toNat]? with
  | none=>(0,⟨6, -3⟩)
  | some e=>if a.To.length=0∨e.To.length < a.To.length then (0,⟨2, -4⟩) else match toR e a.Domain on 0 (-1) a.To with
   | some f=>(0,f)
   | none=>(posI q.Entries a.Entry,⟨0,0⟩)
theorem att_loop(e:zca)(a:zwa)(on:Bool)(he:Zsa e.To)(hl:a.To.length<=1048576):∀(r p:List Int) (last:Int),a.To=p++r->(p=[]/\last= -1∨0<=last/\∃p',p=p' ++ [last])->
 iter (kUa a on e) (p.length:Int)=some (match toR e a.Domain on p.length last r with | some f=>.inr (0,f) | none=>.inl ()):=by
 intro r;have h0:=he.1;induction r with
 | nil=>
  intro p last hp hc;have hp' :a.To=p:=by simpa using hp
  refine zSa ?_;unfold kUa;rw[<-hp',z6a];rfl
 | cons k r ih=>
  intro p last hp hc;have hx:a.To[p.length]? =some k:=by rw[hp];simp
  have hlt:=z5a hx;have hcond:((bif decide (k < 0) then some true else (bif decide ((e.To.length:Int)<=k) then some true else (bif decide (0 < (p.length:Int)) then (idx a.To ((w64 ((p.length:Int) - 1)))).bind fun v38=>some (decide (k<=v38)) else some false))):Option Bool)=some (decide (k<=last) || decide ((e.To.length:Int)<=k)):=by
   rcases hc with ⟨rfl,rfl⟩ | ⟨hl0,p',rfl⟩
   .have:decide (k < 0)=decide (k<= -1):=by congr 1;apply propext;omega
    rw[this];simp only[jCy];cases decide (k<= -1) <;> cases decide ((e.To.length:Int)<=k) <;> rfl
   have h1:decide (0 < (((p' ++ [last]).length:Nat):Int))=true:=decide_eq_true (by rw[jAf,jDh];omega);have h2:idx a.To ((w64 (((p' ++ [last]).length:Int) - 1)))=some last:=by
    rw[show (((p' ++ [last]).length:Int) - 1)=(p'.length:Int) by simp,qob _ (by simp at hlt;omega)];rw[Qza,hp];simp
   rw[h1,h2];simp only[cond_true,jAb];by_cases hk:k < 0
   .rw[decide_eq_true hk,decide_eq_true (show k<=last by omega)];rfl
   rw[decide_eq_false hk];cases decide ((e.To.length:Int)<=k) <;> cases decide (k<=last) <;> rfl
  unfold toR;cases hq:decide (k<=last) || decide ((e.To.length:Int)<=k) with
  | true=>
   rw[if_pos rfl];refine zSa ?_;unfold kUa;rw[kua hx,zEa hx];simp only[cond_true,jAb];rw[hcond,hq];rfl
  | false=>
   rw[if_neg (by decide)];simp at hq;have hlast: -1<=last:=by rcases hc with ⟨_,rfl⟩ | ⟨h,_⟩ <;> omega
   obtain ⟨kn,rfl⟩:∃kn:Nat,k=(kn:Int):=⟨k.toNat,by omega⟩;have hkl:kn < e.To.length:=by omega
   have hw:e.To[kn]? =some e.To[kn]:=jAh hkl;generalize e.To[kn]=w at hw;have hmem:=jAd hw;have hqf:(decide ((kn:Int)<=last) || decide ((e.To.length:Int)<=(kn:Int)))=false:=by simp;omega
   have hb:kUa a on e (p.length:Int)=some (if wDom w !=a.Domain then .out (.inr (0,⟨5,p.length⟩)) else if w.Result !=0 || w.Busy !=on then .out (.inr (0,⟨8,p.length⟩)) else .cont ((p.length+1:Nat):Int)):=by
    unfold kUa;rw[kua hx,zEa hx];simp only[cond_true,jAb];rw[hcond,hqf];simp only[jAb,cond_false,zEa hw,Zta _ (he.2 w hmem),zMa,sc _ (show p.length < 9223372036854775807 by omega)];show _=some (if wDom w !=a.Domain then _ else _);unfold wDom;cases (kbb w.Recipient.Address !=a.Domain) <;> cases (w.Result !=0) <;> cases (w.Busy !=on) <;> rfl
   simp only[jBe,hw];cases h1:wDom w !=a.Domain with
   | true=>rw[h1]at hb;rw[zSa hb];rfl
   | false=>
    rw[h1]at hb;cases h2:w.Result !=0 || w.Busy !=on with
    | true=>rw[h2]at hb;rw[zSa hb];rfl
    | false=>
     rw[h2]at hb;simp only[jAi,if_false]at hb ⊢;rw[z1a hb];have:=ih (p++ [(kn:Int)]) (kn:Int) (by simp[hp]) (.inr ⟨by omega,p,rfl⟩);simpa using this
theorem j1a(q:zva)(a:zwa)(on:Bool)(hq:yta q)(hw:w0a q)(hl:a.To.length<=1048576):vHa q a on=some (if (queF q).Code !=0 then (0,queF q) else attP q a on):=by
 unfold vHa attP;rw[jpa q hq];simp only[jAb,z7a,zMa,kDa];by_cases hc:(queF q).Code=0
 .obtain ⟨ok,hF⟩:=Wda hc;have hn:=ok.n;have h1:((queF q).Code !=0)=false:=by simp[hc]
  rw[h1];simp only[cond_false,jAi,if_false];have hpos:((iter (vaa q a) 0).bind (Sum.elim (fun b8=>some ((-1))) (fun b9=>some b9)):Option Int)=some (posI q.Entries a.Entry):=by
   rw[kKa q.Entries (fun i x=>if x.Id==a.Entry then some ((i:Nat):Int) else none) (.inl ()) .inr]
   .simp only[jAb,Vma];rfl
   .unfold vaa;rw[z6a];rfl
   intro i x hx;have hi:=z5a hx;unfold vaa;rw[kua hx,zEa hx];simp only[cond_true,jAb,sc i (by omega)];cases x.Id==a.Entry <;> rfl
  rw[hpos];simp only[jAb];rcases web q.Entries a.Entry with ⟨h2,_⟩ | ⟨n,e,h2,h3,h4⟩
  .rw[h2];rfl
  rw[h2];have hlt:=z5a h3;rw[decide_eq_false (show ¬((n:Int) < 0) by omega),if_neg (by omega),zEa h3];simp only[cond_false,jAb,jBe,h3];have e1:((bif ((a.To.length:Int)==0) then some true else some (decide ((e.To.length:Int) < (a.To.length:Int)))):Option Bool)=some (decide (a.To.length=0∨e.To.length < a.To.length)):=by
   by_cases h0:a.To.length=0
   .rw[h0];simp
   rw[show ((a.To.length:Int)==0)=false by rw[beq_eq_false_iff_ne];omega];simp only[cond_false,Option.some.injEq]
   congr 1;apply propext;omega
  rw[e1];simp only[jAb];by_cases h5:a.To.length=0∨e.To.length < a.To.length
  .rw[decide_eq_true h5,if_pos h5];rfl
  rw[decide_eq_false h5,if_neg h5];simp only[cond_false];have:=att_loop e a on (hw e (jAd h3)) hl a.To [] (-1) rfl (.inl ⟨rfl,rfl⟩);rw[show iter (kUa a on e) 0=_ from this];simp only[jCy];cases toR e a.Domain on 0 (-1) a.To <;> rfl
 have h1:((queF q).Code !=0)=true:=by simpa using hc
 rw[h1];rfl
def wTo(e:zca)(T:List zga):zca:=⟨e.Id,e.Mail,e.Since,e.Tries,e.Due,T⟩
def onK(T:List zga)(k:Int):List zga:=match T[k.toNat]? with
 | some w=>T.set k.toNat ⟨w.Recipient,w.Result,true⟩
 | none=>T
theorem khb(T:List zga)(k:Int):(onK T k).length=T.length:=by unfold onK;split <;> simp
theorem kIb(e:zca)(dom:Str)(on:Bool):∀(ks:List Int) (i:Nat) (last:Int) (f:zsa),toR e dom on i last ks=some f->f.Code≠0
 | [],_,_,_,h=>by cases h
 | k::ks,i,last,f,h=>by
  unfold toR at h;split at h
  .cases h;simp
  split at h
  .cases h
  split at h
  .cases h;simp
  split at h
  .cases h;simp
  exact kIb e dom on ks _ _ _ h
theorem Jja(e:zca)(dom:Str)(on:Bool):∀(ks:List Int) (i:Nat) (last:Int), -1<=last->toR e dom on i last ks=none->∀k∈ks,last < k/\k < (e.To.length:Int)/\∃w,e.To[k.toNat]? =some w/\wDom w=dom/\w.Result=0/\w.Busy=on
 | [],_,_,_,_,k,hk=>by cases hk
 | k::ks,i,last,hl,h,x,hx=>by
  unfold toR at h;split at h
  .cases h
  rename_i h1;simp at h1;have hkl:k.toNat < e.To.length:=by omega
  rw[jAh hkl]at h;generalize hw:e.To[k.toNat]=w at h;dsimp only at h;split at h
  .cases h
  rename_i h2;split at h
  .cases h
  rename_i h3;simp at h2 h3;rcases jCd.1 hx with rfl | hx
  .exact ⟨by omega,by omega,w,by rw[jAh hkl,hw],h2,h3.1,h3.2⟩
  obtain ⟨a,b,c⟩:=Jja e dom on ks _ k (by omega) h x hx;exact ⟨by omega,b,c⟩
theorem Jka{q:zva}{a:zwa}{on:Bool}(h:(attP q a on).2.Code=0):∃(n:Nat) (e:zca),attP q a on=((n:Int),⟨0,0⟩)/\q.Entries[n]? =some e/\e.Id=a.Entry/\toR e a.Domain on 0 (-1) a.To=none/\1<=a.To.length/\a.To.length<=e.To.length:=by
 unfold attP at h ⊢;rcases web q.Entries a.Entry with ⟨h2,_⟩ | ⟨n,e,h2,h3,h4⟩
 .rw[h2]at h;simp at h
 rw[h2]at h ⊢;rw[if_neg (by omega)]at h ⊢;simp only[jBe,h3]at h ⊢;by_cases h5:a.To.length=0∨e.To.length < a.To.length
 .rw[if_pos h5]at h;simp at h
 rw[if_neg h5]at h ⊢;cases ht:toR e a.Domain on 0 (-1) a.To with
 | some f=>rw[ht]at h;exact absurd h (kIb _ _ _ _ _ _ _ ht)
 | none=>exact ⟨n,e,rfl,h3,h4,ht,by omega,by omega⟩
def Yna(L:List zca)(n:Nat)(ks:List Int):List zca:=match L[n]? with
 | some e=>L.set n (wTo e (ks.foldl onK e.To))
 | none=>L
def Zua(q:zva)(a:zwa):zva × zsa:=
 if (queF q).Code !=0 then (⟨[],0⟩,queF q) else if (attP q a false).2.Code !=0 then (⟨[],0⟩,(attP q a false).2) else
 if decide (2<=Kqa q.Entries a.Domain) || uwP ((q.Entries[(attP q a false).1.toNat]?).getD ⟨0,⟨⟨[],[],[]⟩,⟨[],[]⟩⟩,0,0,0,[]⟩) a.Domain then (⟨[],0⟩,⟨8, -5⟩) else (⟨Yna q.Entries (attP q a false).1.toNat a.To,q.Next⟩,⟨0,0⟩)
theorem Zva{L:List zca}{n:Nat}(hn:n < L.length)(x:zca):idx (L.set n x) (n:Int)=some x:=zEa (by simp[hn])
theorem qEb{a:zwa}{f:zsa}{L:List zca}{n:Nat}{e:zca}(he:L[n]? =some e)(hl:a.To.length<=1048576)(hk:∀k∈a.To,0<=k/\k < (e.To.length:Int))
 {body:Int × List zca->Option (Step (Int × List zca) (List zca))} (hb:body=wia a ((n:Int),f) (L,L.length)∨body=Kma a ((n:Int),f) (L,L.length)):
 iter body (0,L)=some (L.set n (wTo e (a.To.foldl onK e.To))):=by
 have hn:=z5a he;have key:∀(r p:List Int) (T:List zga),a.To=p++r->T.length=e.To.length->iter body ((p.length:Int),L.set n (wTo e T))=some (L.set n (wTo e (r.foldl onK T))):=by
  intro r;induction r with
  | nil=>
   intro p T hp hT;have hp' :a.To=p:=by simpa using hp
   refine zSa ?_;rcases hb with rfl | rfl
   .unfold wia;dsimp only;rw[<-hp',z6a];rfl
   unfold Kma;dsimp only;rw[<-hp',z6a];rfl
  | cons k r ih=>
   intro p T hp hT;have hx:a.To[p.length]? =some k:=by rw[hp];simp
   have hlt:=z5a hx;obtain ⟨k0,k1⟩:=hk k (jAd hx);obtain ⟨kn,rfl⟩:∃kn:Nat,k=(kn:Int):=⟨k.toNat,by omega⟩;have hkT:T[kn]? =some (T[kn]'(by omega)):=jAh (by omega);generalize T[kn]'(by omega)=w at hkT;have hon:onK T (kn:Int)=T.set kn ⟨w.Recipient,w.Result,true⟩:=by unfold onK;simp only[jBe,hkT]
   have hnown:nown L.length (n:Int)=some true:=by unfold nown;rw[if_pos (by simpa using hn)]
   have hw:idx (wTo e T).To (kn:Int)=some w:=zEa hkT;have hc:body ((p.length:Int),L.set n (wTo e T))=some (.cont (((p.length+1:Nat):Int),L.set n (wTo e (onK T (kn:Int))))):=by
    rcases hb with rfl | rfl
    .unfold wia;dsimp only;rw[kua hx,zEa hx];simp only[cond_true,jAb,Zva hn,hnown,hw,sc _ (show p.length < 9223372036854775807 by omega),jBe,jDu,hon];rfl
    unfold Kma;dsimp only;rw[kua hx,zEa hx];simp only[cond_true,jAb,Zva hn,hnown,hw,sc _ (show p.length < 9223372036854775807 by omega),jBe,jDu,hon];rfl
   rw[z1a hc];have:=ih (p++ [(kn:Int)]) (onK T (kn:Int)) (by simp[hp]) (by rw[khb,hT]);simpa using this
 have h0:L.set n (wTo e e.To)=L:=Jea he;have:=key a.To [] e.To rfl rfl;rw[h0]at this;exact this
theorem Yoa{q:zva}(hq:yta q)(ok:QueOk q):wbb q.Entries:=⟨hq.1,hq.2⟩
theorem Jla(q:zva)(a:zwa)(hq:yta q)(hw:w0a q)(hl:a.To.length<=1048576):jea q a=some (Zua q a):=by
 unfold jea Zua;rw[j1a q a false hq hw hl];simp only[jAb,z7a,zMa,kDa];by_cases hc:(queF q).Code=0
 .obtain ⟨ok,hF⟩:=Wda hc;have h1:((queF q).Code !=0)=false:=by simp[hc]
  have hn:=ok.n;rw[h1];simp only[jAi,if_false];by_cases hca:(attP q a false).2.Code=0
  .obtain ⟨n,e,ha,he,hid,ht,t1,t2⟩:=Jka hca;have hne:=z5a he;rw[ha];simp only[bne_self_eq_false,cond_false,jAi,if_false,jBe,he,jBr];obtain ⟨u,m,hbz,hu,hm⟩:=busy_eq q hn hw ok.ids;rw[show iter (jJa q) (0,([]:List ((Int × Str) × Bool)),([]:List (Str × Int)))=some (u,m) from hbz];simp only[jAb,hm,hu];have e1:(q.Entries.any fun x=>a.Entry==x.Id && uwP x a.Domain)=uwP e a.Domain:=by
    rw[jAz,List.any_eq_true];constructor
    .rintro ⟨x,hx,hxe⟩;simp at hxe;have:x=e:=id_inj ok.ids x hx e (jAd he) (by rw[hid];exact hxe.1.symm);rw[<-this];exact hxe.2
    intro h;exact ⟨e,jAd he,by simp[h,hid]⟩
   rw[e1];have e2:decide ((2:Int)<=(Kqa q.Entries a.Domain:Int))=decide (2<=Kqa q.Entries a.Domain):=by congr 1;apply propext;omega
   rw[e2];have e3:((bif decide (2<=Kqa q.Entries a.Domain) then some true else some (uwP e a.Domain)):Option Bool)=some (decide (2<=Kqa q.Entries a.Domain) || uwP e a.Domain):=by cases decide (2<=Kqa q.Entries a.Domain) <;> rfl
   rw[e3];simp only[jAb];cases decide (2<=Kqa q.Entries a.Domain) || uwP e a.Domain with
   | true=>rfl
   | false=>
    simp only[cond_false,jAi,if_false];rw[vAa _ (by omega)];simp only[jAb];rw[show iter (jKa q.Entries) (0,0,q.Entries)=some (q.Entries,q.Entries.length) from Wba q.Entries (Yoa hq ok)];simp only[jAb];rw[qEb he hl (fun k hk=>by have:=Jja _ _ _ _ _ _ (by omega) ht k hk;omega) (.inl rfl)];unfold Yna;rw[he];rfl
  have h2:((attP q a false).2.Code !=0)=true:=by simpa using hca
  rw[h2];rfl
 have h1:((queF q).Code !=0)=true:=by simpa using hc
 rw[h1];simp only[if_true,h1,cond_true]
def kib(t:Int):Int:=if 8 < t then 14400 else 60 * 2 ^ (t - 1).toNat
theorem zOa(t w i w' i' :Int)(h1:decide (i < t)=true)(h2:decide (w < 14400)=true)(h3:min (w64 (2 * w)) 14400=w')(h4:w64 (i+1)=i'):iter (qya t) (w,i)=iter (qya t) (w',i'):=by
 refine z1a ?_;unfold qya;dsimp only;rw[h1,h2,h3,h4];rfl
theorem wua(t w i:Int)(h:(decide (i < t) && decide (w < 14400))=false):iter (qya t) (w,i)=some w:=by
 refine zSa ?_;unfold qya;dsimp only;cases h1:decide (i < t) with
 | false=>rfl
 | true=>rw[h1]at h;simp only[jDq]at h;rw[h];rfl
theorem wait_eq(t:Int)(h:1<=t):iter (qya t) (60,1)=some (kib t):=by
 by_cases h8:8 < t
 .unfold kib;rw[if_pos h8];rw[zOa t 60 1 120 2 (decide_eq_true (by omega)) rfl rfl rfl,zOa t 120 2 240 3 (decide_eq_true (by omega)) rfl rfl rfl,zOa t 240 3 480 4 (decide_eq_true (by omega)) rfl rfl rfl,zOa t 480 4 960 5 (decide_eq_true (by omega)) rfl rfl rfl,zOa t 960 5 1920 6 (decide_eq_true (by omega)) rfl rfl rfl,zOa t 1920 6 3840 7 (decide_eq_true (by omega)) rfl rfl rfl,zOa t 3840 7 7680 8 (decide_eq_true (by omega)) rfl rfl rfl,zOa t 7680 8 14400 9 (decide_eq_true (by omega)) rfl rfl rfl];exact wua t 14400 9 (by simp)
 have:t=1∨t=2∨t=3∨t=4∨t=5∨t=6∨t=7∨t=8:=by omega
 rcases this with rfl | rfl | rfl | rfl | rfl | rfl | rfl | rfl
 .exact wua 1 60 1 rfl
 .rw[zOa 2 60 1 120 2 rfl rfl rfl rfl];exact wua 2 120 2 rfl
 .rw[zOa 3 60 1 120 2 rfl rfl rfl rfl,zOa 3 120 2 240 3 rfl rfl rfl rfl];exact wua 3 240 3 rfl
 .rw[zOa 4 60 1 120 2 rfl rfl rfl rfl,zOa 4 120 2 240 3 rfl rfl rfl rfl,zOa 4 240 3 480 4 rfl rfl rfl rfl];exact wua 4 480 4 rfl
 .rw[zOa 5 60 1 120 2 rfl rfl rfl rfl,zOa 5 120 2 240 3 rfl rfl rfl rfl,zOa 5 240 3 480 4 rfl rfl rfl rfl,zOa 5 480 4 960 5 rfl rfl rfl rfl];exact wua 5 960 5 rfl
 .rw[zOa 6 60 1 120 2 rfl rfl rfl rfl,zOa 6 120 2 240 3 rfl rfl rfl rfl,zOa 6 240 3 480 4 rfl rfl rfl rfl,zOa 6 480 4 960 5 rfl rfl rfl rfl,zOa 6 960 5 1920 6 rfl rfl rfl rfl];exact wua 6 1920 6 rfl
 .rw[zOa 7 60 1 120 2 rfl rfl rfl rfl,zOa 7 120 2 240 3 rfl rfl rfl rfl,zOa 7 240 3 480 4 rfl rfl rfl rfl,zOa 7 480 4 960 5 rfl rfl rfl rfl,zOa 7 960 5 1920 6 rfl rfl rfl rfl,zOa 7 1920 6 3840 7 rfl rfl rfl rfl];exact wua 7 3840 7 rfl
 rw[zOa 8 60 1 120 2 rfl rfl rfl rfl,zOa 8 120 2 240 3 rfl rfl rfl rfl,zOa 8 240 3 480 4 rfl rfl rfl rfl,zOa 8 480 4 960 5 rfl rfl rfl rfl,zOa 8 960 5 1920 6 rfl rfl rfl rfl,zOa 8 1920 6 3840 7 rfl rfl rfl rfl,zOa 8 3840 7 7680 8 rfl rfl rfl rfl];exact wua 8 7680 8 rfl
theorem zjb(t:Int)(h:1<=t):0<=kib t/\kib t<=14400:=by
 unfold kib;by_cases h8:8 < t
 .rw[if_pos h8];omega
 have:t=1∨t=2∨t=3∨t=4∨t=5∨t=6∨t=7∨t=8:=by omega
 rcases this with rfl | rfl | rfl | rfl | rfl | rfl | rfl | rfl <;> decide
def j2a(since tries now:Int):Int × Bool:=if since+345600<=now then (0,false) else (min (min (now+kib tries) (since+345600)) 68719476736,true)
theorem QXa{t:Int}(h:joa t=true): -68719476736<=t/\t<=68719476736:=by
 unfold joa at h;simpa using h
theorem zkb(a b:Int)(ha:joa a=true)(hb:joa b=true):yqa [a,b]=some true:=by
 unfold yqa;have t0:∀v,joa v=true->qMa v=some true:=fun v hv=>by rw[wta];exact congrArg some hv
 have h1:qCa [a,b] 0=some (.cont 1):=by
  unfold qCa;rw[show idx [a,b] 0=some a from rfl];simp only[jAb,t0 a ha];rfl
 have h2:qCa [a,b] 1=some (.cont 2):=by
  unfold qCa;rw[show idx [a,b] 1=some b from rfl];simp only[jAb,t0 b hb];rfl
 rw[z1a h1,z1a h2,zSa (r:=.inl ()) rfl];rfl
theorem Jma(a t n:Int)(ha:joa a=true)(hn:joa n=true)(ht:1<=t/\t<=1000000)(hle:a<=n):jfa a t n=some ((j2a a t n).1,(j2a a t n).2,⟨0,0⟩):=by
 unfold jfa j2a;obtain ⟨a1,a2⟩:=QXa ha;obtain ⟨n1,n2⟩:=QXa hn;obtain ⟨w1,w2⟩:=zjb t ht.1;rw[zkb a n ha hn,wait_eq t ht.1];simp only[jAb,kDa,jBh,cond_false];rw[decide_eq_false (show ¬t < 1 by omega),decide_eq_false (show ¬(1000000:Int) < t by omega),decide_eq_false (show ¬n < a by omega),v1a (n:=a+345600) (by omega) (by omega),v1a (n:=n+kib t) (by omega) (by omega)];simp only[cond_false,jAb];by_cases h:a+345600<=n
 .rw[decide_eq_true h,if_pos h];rfl
 rw[decide_eq_false h,if_neg h];rfl
def badR(v:Int):Bool:=decide (v < 1) || decide (4 < v)
def latR(v:Int):Bool:=v==2 || v==4
def finV(again:Bool)(v:Int):Int:=if latR v then (if again then 0 else 3) else v
def resK(again:Bool)(T:List zga)(kv:Int × Int):List zga:=match T[kv.1.toNat]? with
 | some w=>T.set kv.1.toNat ⟨w.Recipient,finV again kv.2,false⟩
 | none=>T
def resS(again:Bool)(id:Int)(s:List zla × List zga)(kv:Int × Int):List zla × List zga:=(if finV again kv.2 !=0 then s.1++ [⟨id,kv.1,finV again kv.2⟩] else s.1,resK again s.2 kv)
theorem Voa(again:Bool)(T:List zga)(kv:Int × Int):(resK again T kv).length=T.length:=by unfold resK;split <;> simp
theorem latB(v:Int):((bif (v==2) then some true else some ((v==4))):Option Bool)=some (latR v):=by unfold latR;cases v==2 <;> rfl
theorem badB(v:Int):((bif decide (v < 1) then some true else some (decide (4 < v))):Option Bool)=some (badR v):=by unfold badR;cases decide (v < 1) <;> rfl
theorem zlb{α:Type}(P:α->Bool)(l:List α):decide (0<=(kCa (fun i x=>if P x then some ((i:Nat):Int) else none) 0 l).getD (-1))=l.any P:=by
 cases hf:kCa (fun i x=>if P x then some ((i:Nat):Int) else none) 0 l with
 | none=>
  rw[q2a]at hf;have:l.any P=false:=by
   rw[jCr];intro x hx hP;obtain ⟨i,hi⟩:=List.mem_iff_getElem?.1 hx;have:=hf i x hi;simp[hP]at this
  rw[this];rfl
 | some z=>
  obtain ⟨i,x,h1,h2⟩:=Kna hf;cases hP:P x with
  | false=>simp[hP]at h2
  | true=>
   simp[hP]at h2;have:l.any P=true:=List.any_eq_true.2 ⟨x,jAd h1,hP⟩;rw[this];exact decide_eq_true (by simp;omega)
theorem zmb{a:zwa}{rs:List Int}{f:zsa}{L:List zca}{n m:Nat}{e e1:zca}{again:Bool}{j3:Int × Int × Int}{j60:Bool × List zca}{j63:Int × List zca}{b:List zca × Nat}
 (hn:n < L.length) (hm:n < b.2) (hl:a.To.length<=1048576) (hrl:rs.length=a.To.length) (hbad:∀v∈rs,badR v=false) (hid:e1.Id=a.Entry) (h3:j3.1=(n:Int)) (h60:rs.any latR=true->j60.1=again) (h63:rs.any latR=true->j63.1=if again then 0 else 3)
 {body:Int × List zla × List zca->Option (Step (Int × List zla × List zca) (List zla × List zca))} (hb:body=qWa a rs ((n:Int),f) b j60∨body=yYa a rs j3 b j63):
 ∀(r p rr pp:List Int) (last:Int) (out:List zla) (T:List zga),a.To=p++r->rs=pp++rr->p.length=pp.length-> -1<=last->toR e a.Domain true p.length last r=none->T.length=e.To.length->(∀j:Nat,last < (j:Int)->T[j]? =e.To[j]?)->out.length<=p.length->
  iter body ((p.length:Int),out,L.set n (wTo e1 T))=some (((r.zip rr).foldl (resS again a.Entry) (out,T)).1,L.set n (wTo e1 ((r.zip rr).foldl (resS again a.Entry) (out,T)).2)):=by
 have hnown:nown b.2 (n:Int)=some true:=by unfold nown;rw[if_pos (by simpa using hm)]
 intro r;induction r with
 | nil=>
  intro p rr pp last out T hp hpp hpl hla ht hT hj ho;have hp' :a.To=p:=by simpa using hp
  refine zSa ?_;rcases hb with rfl | rfl
  .unfold qWa;dsimp only;rw[<-hp',z6a];rfl
  unfold yYa;dsimp only;rw[<-hp',z6a];rfl
 | cons k r ih=>
  intro p rr pp last out T hp hpp hpl hla ht hT hj ho;have hx:a.To[p.length]? =some k:=by rw[hp];simp
  have hlt:=z5a hx;obtain ⟨v,rr',rfl⟩:∃v rr',rr=v::rr' :=by
   cases rr with
   | nil=>exfalso;rw[hp,hpp]at hrl;simp at hrl;omega
   | cons v rr' =>exact ⟨v,rr',rfl⟩
  have hv:rs[p.length]? =some v:=by rw[hpp,hpl];simp
  have hvb:=hbad v (jAd hv);have ht0:=ht;obtain ⟨k0,k1,w,w1,w2,w3,w4⟩:=Jja _ _ _ _ _ _ hla ht k (by simp);obtain ⟨kn,rfl⟩:∃kn:Nat,k=(kn:Int):=⟨k.toNat,by omega⟩;simp only[jBe]at w1;have hkT:T[kn]? =some w:=by rw[hj kn k0,w1]
  have hkl:=z5a hkT;have htr:toR e a.Domain true (p.length+1) (kn:Int) r=none:=by
   unfold toR at ht;split at ht
   .cases ht
   simp only[jBe,w1]at ht;split at ht
   .cases ht
   split at ht
   .cases ht
   exact ht
  have hres:resK again T ((kn:Int),v)=T.set kn ⟨w.Recipient,finV again v,false⟩:=by unfold resK;simp only[jBe,hkT]
  have hvl:latR v=true->rs.any latR=true:=fun h=>List.any_eq_true.2 ⟨v,jAd hv,h⟩
  have hw:idx T (kn:Int)=some w:=zEa hkT;have happ:app 5864062014805 out ([⟨a.Entry,(kn:Int),finV again v⟩]:List zla)=some (out++ [⟨a.Entry,(kn:Int),finV again v⟩]):=vka (by simp;omega);have hw2:∀x:zga,idx (T.set kn x) (kn:Int)=some x:=fun x=>zEa (by simp[hkl])
  have hmk:∀T' :List zga,zca.mk (wTo e1 T).Id (wTo e1 T).Mail (wTo e1 T).Since (wTo e1 T).Tries (wTo e1 T).Due T' =wTo e1 T' :=fun _=>rfl
  have hmk2:∀T'' T' :List zga,zca.mk (wTo e1 T'').Id (wTo e1 T'').Mail (wTo e1 T'').Since (wTo e1 T'').Tries (wTo e1 T'').Due T' =wTo e1 T' :=fun _ _=>rfl
  have hto:∀T' :List zga,(wTo e1 T').To=T' :=fun _=>rfl
  have hids:∀T' :List zga,(wTo e1 T').Id=a.Entry:=fun _=>hid
  have hfin0:latR v=true->again=true->finV again v=0:=fun h1 h2=>by unfold finV;rw[if_pos h1,if_pos h2]
  have hc:body ((p.length:Int),out,L.set n (wTo e1 T))=some (.cont (((p.length+1:Nat):Int),(resS again a.Entry (out,T) ((kn:Int),v)).1,L.set n (wTo e1 (resS again a.Entry (out,T) ((kn:Int),v)).2))):=by
   show body ((p.length:Int),out,L.set n (wTo e1 T))=some (Step.cont (((p.length+1:Nat):Int),(if finV again v !=0 then out++ [⟨a.Entry,(kn:Int),finV again v⟩] else out),L.set n (wTo e1 (resK again T ((kn:Int),v)))));rw[hres];rcases hb with rfl | rfl
   .unfold qWa;dsimp only;rw[kua hx,zEa hx,zEa hv];simp only[cond_true,jAb,hnown,Zva hn,hw,jBe,latB,hmk2,hto,jDu,hw2,sc _ (show p.length < 9223372036854775807 by omega)];cases hlv:latR v with
    | true=>
     rw[h60 (hvl hlv)];cases ha:again with
     | true=>
      have:finV true v=0:=by rw[<-ha];exact hfin0 hlv ha
      rw[this];simp only[cond_true,jAb];have hww:(⟨w.Recipient,w.Result,false⟩:zga)=⟨w.Recipient,0,false⟩:=by rw[w3]
      rw[hww];rfl
     | false=>
      have hf:finV false v=3:=by unfold finV;rw[if_pos hlv];rfl
      rw[ha,hf]at happ;rw[hf];simp only[cond_true,cond_false,jAb,Zva hn,hto,hw2,hids,jDu,hmk2,happ];rfl
    | false=>
     have hf:finV again v=v:=by unfold finV;rw[hlv];rfl
     rw[hf]at happ;have hv0:(v !=0)=true:=by
      unfold badR at hvb;simp at hvb ⊢;omega
     rw[hf,hv0];simp only[cond_false,jAb,Zva hn,hto,hw2,hids,jDu,hmk2,happ,if_true]
   unfold yYa;dsimp only;rw[kua hx,zEa hx,zEa hv,h3];have hj95:((bif latR v then some j63.1 else some v):Option Int)=some (finV again v):=by
    unfold finV;cases hlv:latR v with
    | true=>rw[h63 (hvl hlv)];rfl
    | false=>rfl
   simp only[cond_true,jAb,hnown,Zva hn,hw,jBe,latB,hmk2,hto,jDu,hw2,hj95,sc _ (show p.length < 9223372036854775807 by omega)];simp only[happ,hw2,jAb];cases finV again v !=0 <;> rfl
  rw[z1a hc];have:=ih (p++ [(kn:Int)]) rr' (pp++ [v]) (kn:Int) (resS again a.Entry (out,T) ((kn:Int),v)).1 (resS again a.Entry (out,T) ((kn:Int),v)).2 (by simp[hp]) (by simp[hpp]) (by simp[hpl]) (by omega) (by simpa using htr) (by
   show (resK again T ((kn:Int),v)).length=_;rw[Voa,hT]) (fun j hjj=>by
   show (resK again T ((kn:Int),v))[j]? =_;rw[hres,jBp (by omega)];exact hj j (by omega)) (by
   show (if finV again v !=0 then out++ [⟨a.Entry,(kn:Int),finV again v⟩] else out).length<=_;split <;> simp <;> omega)
  simpa using this
def noMl(m:kia):Bool:=m.Envelope.From==[] && m.Envelope.Id==[] && decide (m.Envelope.To.length=0) && decide (m.Message.Fields.length=0) && decide (m.Message.Body.length=0)
def znb(r:zea):Bool:=r.Attempt.Entry==0 && r.Attempt.Domain==[] && decide (r.Attempt.To.length=0) && decide (r.Results.length=0)
def attL:Int->List Int->Bool
 | _,[]=>true
 | last,k::r=>decide (last < k) && decide (k<=59) && attL k r
def wfb(r:zea):zsa:=
 if decide (r.Attempt.Entry < 0) || decide (1000000 < r.Attempt.Entry) then ⟨3, -3⟩ else if !domP r.Attempt.Domain then ⟨10, -4⟩ else if decide (r.Attempt.To.length < 1) || decide (60 < r.Attempt.To.length) then ⟨2, -4⟩ else
 if !attL (-1) r.Attempt.To then ⟨3, -4⟩ else if r.Results.length≠r.Attempt.To.length then ⟨9, -5⟩ else if r.Results.any badR then ⟨3, -5⟩ else ⟨0,0⟩
def rcdF(r:zea):zsa:=if r.Kind !=1 && r.Kind !=2 then ⟨4, -2⟩ else if !joa r.Now then ⟨3, -7⟩ else if (if r.Kind==2 then !noMl r.Mail else !znb r) then ⟨5, -8⟩ else
 if r.Kind==2 then wfb r else if (jRa r.Mail).Code !=0 then ⟨(jRa r.Mail).Code, -6⟩ else ⟨0,0⟩
theorem z2(a b:Nat)(h:a+b<=9223372036854775807):((w64 ((a:Int)+(b:Int)))==0)=(decide (a=0) && decide (b=0)):=by
 rw[Yaa a b h,jAz];simp only[beq_iff_eq,jAr,decide_eq_true_eq];omega
theorem Wea(m:kia)(h:vza m):wUa m=some (noMl m):=by
 obtain ⟨t1,_⟩:=yua h;obtain ⟨f1,_⟩:=jqa h;have h5:=h.2.2;unfold wUa noMl;rw[Yaa _ _ (by omega),z2 _ _ (by omega)];have e:decide (m.Envelope.To.length+m.Message.Fields.length=0)=(decide (m.Envelope.To.length=0) && decide (m.Message.Fields.length=0)):=by
  rw[jAz];simp only[jAr,decide_eq_true_eq];omega
 rw[e];cases m.Envelope.From==[] <;> cases m.Envelope.Id==[] <;> rfl
theorem Wfa(r:zea)(h:kha r):wVa r=some (if r.Kind==2 then noMl r.Mail else znb r):=by
 unfold wVa;cases r.Kind==2 with
 | true=>simp only[cond_true,if_true];rw[Wea _ h.mail];rfl
 | false=>
  simp only[cond_false,jAi,if_false];have:=h.to;have:=h.res;rw[z2 _ _ (by omega)];unfold znb;cases r.Attempt.Entry==0 <;> cases r.Attempt.Domain==[] <;> rfl
theorem done_l1(r:zea)(hl:r.Attempt.To.length<=1048576):iter (qXa r) 0=some (if attL (-1) r.Attempt.To then .inl () else .inr ⟨3, -4⟩):=by
 have key:∀(ks p:List Int) (last:Int),r.Attempt.To=p++ks->(p=[]/\last= -1∨0<=last/\∃p',p=p' ++ [last])->
  iter (qXa r) (p.length:Int)=some (if attL last ks then .inl () else .inr ⟨3, -4⟩):=by
  intro ks;induction ks with
  | nil=>
   intro p last hp hc;have hp' :r.Attempt.To=p:=by simpa using hp
   refine zSa ?_;unfold qXa;rw[<-hp',z6a];rfl
  | cons k ks ih=>
   intro p last hp hc;have hx:r.Attempt.To[p.length]? =some k:=by rw[hp];simp
   have hlt:=z5a hx;have hcond:((bif decide (k < 0) then some true else (bif decide (60<=k) then some true else (bif decide (0 < (p.length:Int)) then (idx r.Attempt.To ((w64 ((p.length:Int) - 1)))).bind fun v28=>some (decide (k<=v28)) else some false))):Option Bool)=some (!(decide (last < k) && decide (k<=59))):=by
    rcases hc with ⟨rfl,rfl⟩ | ⟨hl0,p',rfl⟩
    .have e1:decide (k < 0)= !decide (-1 < k):=by rw[jAz];simp;omega
     have e2:decide (60<=k)= !decide (k<=59):=by rw[jAz];simp;omega
     rw[e1,e2];simp only[jCy];cases decide (-1 < k) <;> cases decide (k<=59) <;> rfl
    have h1:decide (0 < (((p' ++ [last]).length:Nat):Int))=true:=decide_eq_true (by rw[jAf,jDh];omega);have h2:idx r.Attempt.To ((w64 (((p' ++ [last]).length:Int) - 1)))=some last:=by
     rw[show (((p' ++ [last]).length:Int) - 1)=(p'.length:Int) by simp,qob _ (by simp at hlt;omega)];rw[Qza,hp];simp
    rw[h1,h2];simp only[cond_true,jAb];have e2:decide (60<=k)= !decide (k<=59):=by rw[jAz];simp;omega
    have e3:decide (k<=last)= !decide (last < k):=by rw[jAz];simp
    rw[e2,e3];by_cases hk:k < 0
    .rw[decide_eq_true hk,decide_eq_false (show ¬last < k by omega)];rfl
    rw[decide_eq_false hk];cases decide (last < k) <;> cases decide (k<=59) <;> rfl
   have hb:qXa r (p.length:Int)=some (if !(decide (last < k) && decide (k<=59)) then .out (.inr ⟨3, -4⟩) else .cont ((p.length+1:Nat):Int)):=by
    unfold qXa;rw[kua hx,zEa hx];simp only[cond_true,jAb];rw[hcond];simp only[jAb,zMa,sc _ (show p.length < 9223372036854775807 by omega)];cases decide (last < k) && decide (k<=59) <;> rfl
   unfold attL;cases hq:decide (last < k) && decide (k<=59) with
   | false=>rw[hq]at hb;rw[zSa hb];rfl
   | true=>
    rw[hq]at hb;simp only[jBh,jAi,if_false,jDq]at hb ⊢;rw[z1a hb];simp at hq;have hlast: -1<=last:=by rcases hc with ⟨_,rfl⟩ | ⟨h,_⟩ <;> omega
    have:=ih (p++ [k]) k (by simp[hp]) (.inr ⟨by omega,p,rfl⟩);simpa using this
 exact key r.Attempt.To [] (-1) rfl (.inl ⟨rfl,rfl⟩)
theorem Jna(r:zea)(h:kha r):jha r=some (wfb r):=by
 have ht:=h.to;have hr:=h.res;have hd:=h.dom;unfold jha wfb;have e1:((bif decide (r.Attempt.Entry < 0) then some true else some (decide (1000000 < r.Attempt.Entry))):Option Bool)=some (decide (r.Attempt.Entry < 0) || decide (1000000 < r.Attempt.Entry)):=by cases decide (r.Attempt.Entry < 0) <;> rfl
 rw[e1];simp only[jAb,zMa];cases decide (r.Attempt.Entry < 0) || decide (1000000 < r.Attempt.Entry) with
 | true=>rfl
 | false=>
  simp only[cond_false,jAi,if_false];rw[yPa _ (by omega)];simp only[jAb];cases domP r.Attempt.Domain with
  | false=>rfl
  | true=>
   simp only[jBh,cond_false,jAi,if_false];have e2:((bif decide ((r.Attempt.To.length:Int) < 1) then some true else some (decide (60 < (r.Attempt.To.length:Int)))):Option Bool)=some (decide (r.Attempt.To.length < 1) || decide (60 < r.Attempt.To.length)):=by
    have a1:decide ((r.Attempt.To.length:Int) < 1)=decide (r.Attempt.To.length < 1):=by congr 1;apply propext;omega
    have a2:decide (60 < (r.Attempt.To.length:Int))=decide (60 < r.Attempt.To.length):=by congr 1;apply propext;omega
    rw[a1,a2];cases decide (r.Attempt.To.length < 1) <;> rfl
   rw[e2];simp only[jAb];cases decide (r.Attempt.To.length < 1) || decide (60 < r.Attempt.To.length) with
   | true=>rfl
   | false=>
    simp only[cond_false,jAi,if_false];rw[done_l1 r ht];cases attL (-1) r.Attempt.To with
    | false=>rfl
    | true=>
     simp only[if_true,jAb,Sum.elim_inl,jBh,jAi,if_false];by_cases hl:r.Results.length=r.Attempt.To.length
     .rw[show ((r.Results.length:Int) !=(r.Attempt.To.length:Int))=false by rw[hl];simp,if_neg (by simpa using hl)];simp only[cond_false];have hany:∃z:Int,((iter (wla r) 0).bind (Sum.elim (fun _=>some ((-1))) (fun b=>some b)):Option Int)=some z/\decide (0<=z)=r.Results.any badR:=by
       rw[kKa r.Results (fun i x=>if badR x then some ((i:Nat):Int) else none) (.inl ()) .inr]
       .refine ⟨_,?_,zlb badR r.Results⟩;simp only[jAb,Vma]
       .unfold wla;rw[z6a];rfl
       intro i x hx;have hi:=z5a hx;unfold wla;rw[kua hx,zEa hx];simp only[cond_true,jAb,sc i (by omega)];unfold badR;cases decide (x < 1) <;> cases decide (4 < x) <;> rfl
      obtain ⟨z,hz1,hz2⟩:=hany;first
       | rw[hz1]
       | (simp only[hz1])
      simp only[jAb,hz2,kDa];cases r.Results.any badR <;> rfl
     rw[show ((r.Results.length:Int) !=(r.Attempt.To.length:Int))=true by simp;omega,if_pos hl];rfl
theorem y0a(r:zea)(h:kha r):vxa r=some (rcdF r):=by
 unfold vxa rcdF;have e1:((bif (r.Kind !=1) then some ((r.Kind !=2)) else some false):Option Bool)=some (r.Kind !=1 && r.Kind !=2):=by cases r.Kind !=1 <;> rfl
 rw[e1];simp only[jAb,zMa,wta];cases r.Kind !=1 && r.Kind !=2 with
 | true=>rfl
 | false=>
  simp only[cond_false,jAi,if_false];show (bif !joa r.Now then _ else _)=_;cases joa r.Now with
  | false=>rfl
  | true=>
   simp only[jBh,cond_false,jAi,if_false];rw[Wfa r h];simp only[jAb];have e2:(!(if r.Kind==2 then noMl r.Mail else znb r))=(if r.Kind==2 then !noMl r.Mail else !znb r):=by cases r.Kind==2 <;> rfl
   rw[e2];cases (if r.Kind==2 then !noMl r.Mail else !znb r) with
   | true=>rfl
   | false=>
    simp only[cond_false,jAi,if_false];cases r.Kind==2 with
    | true=>
     simp only[cond_true,if_true];rw[Jna r h];rfl
    | false=>
     simp only[cond_false,jAi,if_false];rw[wFa _ h.mail.1 h.mail.2];simp only[jAb,z7a,kDa];cases (jRa r.Mail).Code !=0 <;> rfl
def lpL{α:Type}(item:Lft->α × Lft):Nat->Lft->List α × Lft
 | 0,s=>([],s)
 | _+1,none=>([],none)
 | n+1,some b=>((item (some b)).1::(lpL item n (item (some b)).2).1,(lpL item n (item (some b)).2).2)
theorem lpL_succ{α:Type}(item:Lft->α × Lft)(n:Nat)(b:List UInt8):lpL item (n+1) (some b)=((item (some b)).1::(lpL item n (item (some b)).2).1,(lpL item n (item (some b)).2).2):=rfl
def lpR(s:Lft):zba × Lft:=(⟨(pT s).1,(pN (pT s).2).1⟩,(pN (pT s).2).2)
def lpF(s:Lft):zka × Lft:=(⟨(pT s).1,(pT (pT s).2).1⟩,(pT (pT s).2).2)
structure Ypa {α:Type} (item:Lft->α × Lft) (enc:α->List UInt8):Prop where
 bad:(item none).2=none
 inv:∀s x b,item s=(x,some b)->∃b0,s=some b0/\b0=enc x++b/\8<=(enc x).length
theorem wgb:Ypa pN num8:=⟨rfl,fun s x b h=>by
 obtain ⟨b0,h1,_,_,h4⟩:=Yfa h;exact ⟨b0,h1,h4,by rw[zVa];omega⟩⟩
theorem item_R:Ypa lpR spR:=⟨rfl,fun s x b h=>by
 unfold lpR at h;cases h2:(pN (pT s).2).2 with
 | none=>rw[h2]at h;cases h
 | some b2=>
  rw[h2]at h;cases h;obtain ⟨b1,e1,_,_,e4⟩:=Yfa (s:=(pT s).2) (n:=(pN (pT s).2).1) (b:=b) (by rw[<-h2]);obtain ⟨b0,f1,_,f3⟩:=Yga (s:=s) (t:=(pT s).1) (b:=b1) (by rw[<-e1]);exact ⟨b0,f1,by rw[f3,e4];simp[spR],by unfold spR;rw[jAf,kLa];omega⟩⟩
theorem item_F:Ypa lpF spF:=⟨rfl,fun s x b h=>by
 unfold lpF at h;cases h2:(pT (pT s).2).2 with
 | none=>rw[h2]at h;cases h
 | some b2=>
  rw[h2]at h;cases h;obtain ⟨b1,e1,_,e4⟩:=Yga (s:=(pT s).2) (t:=(pT (pT s).2).1) (b:=b) (by rw[<-h2]);obtain ⟨b0,f1,_,f3⟩:=Yga (s:=s) (t:=(pT s).1) (b:=b1) (by rw[<-e1]);exact ⟨b0,f1,by rw[f3,e4];simp[spF],by unfold spF;rw[jAf,kLa];omega⟩⟩
theorem Wga{α:Type}{item:Lft->α × Lft}{enc:α->List UInt8}:∀(l:List α) (b:List UInt8),(∀x∈l,∀b,item (some (enc x++b))=(x,some b))->lpL item l.length (some (l.flatMap enc++b))=(l,some b)
 | [],b,_=>rfl
 | x::l,b,h=>by
  rw[jCe,jAp,jCl];unfold lpL;rw[h x (by simp)];dsimp only;rw[Wga l b (fun y hy=>h y (by simp[hy]))]
theorem whb{α:Type}{item:Lft->α × Lft}{enc:α->List UInt8}(h:Ypa item enc):∀(n:Nat) (s:Lft) (B:Nat),(∀b,s=some b->b.length<=B)->(lpL item n s).1.length * 8<=B+8
 | 0,s,B,_=>by simp[lpL]
 | n+1,none,B,_=>by simp[lpL]
 | n+1,some b,B,hb=>by
  have hbB:=hb b rfl;unfold lpL;dsimp only;rw[jCl];cases hi:(item (some b)).2 with
  | none=>
   have:(lpL item n none).1.length=0:=by cases n <;> rfl
   rw[this];omega
  | some b1=>
   obtain ⟨b0,f1,f2,f3⟩:=h.inv (some b) (item (some b)).1 b1 (by rw[<-hi]);cases f1;have hl:b.length=(enc (item (some b)).1).length+b1.length:=by rw[<-jAf,<-f2]
   have:=whb h n (some b1) (B - 8) (fun b' hb' =>by cases hb';omega);omega
theorem wXa{α:Type}{item:Lft->α × Lft}(h:∀s,qna s->qna (item s).2):∀(n:Nat) (s:Lft),qna s->qna (lpL item n s).2
 | 0,s,hs=>hs
 | n+1,none,hs=>fun b hb=>by cases hb
 | n+1,some b,hs=>wXa h n _ (h _ hs)
theorem QFa{α:Type}{item:Lft->α × Lft}{P:α->Prop}(h:∀s,qna s->qna (item s).2/\P (item s).1):∀(n:Nat) (s:Lft),qna s->∀x∈(lpL item n s).1,P x
 | 0,s,hs,x,hx=>by cases hx
 | n+1,none,hs,x,hx=>by cases hx
 | n+1,some b,hs,x,hx=>by
  rcases jCd.1 hx with rfl | hx
  .exact (h _ hs).2
  exact QFa h n _ (h _ hs).1 x hx
theorem kjb{α:Type}{item:Lft->α × Lft}{enc:α->List UInt8}(hi:Ypa item enc)(n:Int)(hn:n<=9223372036854775807){body:Int × zha × List α->Option (Step (Int × zha × List α) (zha × List α))}
 (h1:∀(i:Nat) b out,(i:Int) < n->out.length<=1048576->b.length<=1048576->body ((i:Int),rdr (some b),out)=some (.cont (((i+1:Nat):Int),rdr (item (some b)).2,out++ [(item (some b)).1])))
 (h2:∀(i:Nat) s out,¬((i:Int) < n/\s≠none)->body ((i:Int),rdr s,out)=some (.out (rdr s,out))):
 ∀(k i:Nat) (s:Lft) (out:List α),k=(n - (i:Int)).toNat->(∀b,s=some b->out.length * 8+b.length<=1048576)->
  iter body ((i:Int),rdr s,out)=some (rdr (lpL item k s).2,out++(lpL item k s).1):=by
 intro k;induction k with
 | zero=>
  intro i s out hk hs;rw[zSa (h2 i s out (by omega))];simp[lpL]
 | succ k ih=>
  intro i s out hk hs;cases s with
  | none=>
   rw[zSa (h2 i none out (by simp))];simp[lpL]
  | some b=>
   have hb:=hs b rfl;rw[z1a (h1 i b out (by omega) (by omega) (by omega))];have:=ih (i+1) (item (some b)).2 (out++ [(item (some b)).1]) (by omega) (fun b1 hb1=>by
    obtain ⟨b0,f1,f2,f3⟩:=hi.inv (some b) (item (some b)).1 b1 (by rw[<-hb1]);cases f1;have hl:b.length=(enc (item (some b)).1).length+b1.length:=by rw[<-jAf,<-f2]
    simp only[jAf,jDh];omega)
   rw[this,lpL_succ];simp
theorem ZNa(i n:Int)(s:Lft):((bif decide (i < n) then some (!(rdr s).bad) else some false):Option Bool)=some (decide (i < n/\s≠none)):=by
 cases s with
 | none=>simp[rdr]
 | some b=>by_cases h:i < n <;> simp[rdr,h]
theorem read_l1(v9:Int × zha)(hn:v9.1<=9223372036854775807)(s:Lft)(hs:qna s):iter (qYa v9) (0,rdr s,([]:List zba))=some (rdr (lpL lpR v9.1.toNat s).2,(lpL lpR v9.1.toNat s).1):=by
 have:=kjb item_R v9.1 hn (body:=qYa v9) (fun i b out hi ho hb=>by
  have hsb:qna (some b):=fun b' h' =>by cases h';exact hb
  unfold qYa;dsimp only;rw[ZNa,decide_eq_true (show (i:Int) < v9.1/\(some b:Lft)≠none from ⟨hi,by simp⟩)];simp only[jAb,cond_true];rw[kca _ hsb];simp only[jAb];rw[zGa _ (k7a hsb).1];simp only[jAb,sc i (by omega)];rw[vka (by simp;omega)];rfl) (fun i s out hc=>by
  unfold qYa;dsimp only;rw[ZNa,decide_eq_false hc];rfl) (v9.1 - ((0:Nat):Int)).toNat 0 s [] rfl (fun b hb=>by have:=hs b hb;simp;omega)
 rw[show (v9.1 - ((0:Nat):Int)).toNat=v9.1.toNat by omega]at this;rw[show iter (qYa v9) (0,rdr s,([]:List zba))=_ from this];simp
theorem read_l2(v9:Int × zha)(hn:v9.1<=9223372036854775807)(s:Lft)(hs:qna s):iter (qZa v9) (0,rdr s,([]:List zka))=some (rdr (lpL lpF v9.1.toNat s).2,(lpL lpF v9.1.toNat s).1):=by
 have:=kjb item_F v9.1 hn (body:=qZa v9) (fun i b out hi ho hb=>by
  have hsb:qna (some b):=fun b' h' =>by cases h';exact hb
  unfold qZa;dsimp only;rw[ZNa,decide_eq_true (show (i:Int) < v9.1/\(some b:Lft)≠none from ⟨hi,by simp⟩)];simp only[jAb,cond_true];rw[kca _ hsb];simp only[jAb];rw[kca _ (k7a hsb).1];simp only[jAb,sc i (by omega)];rw[vka (by simp;omega)];rfl) (fun i s out hc=>by
  unfold qZa;dsimp only;rw[ZNa,decide_eq_false hc];rfl) (v9.1 - ((0:Nat):Int)).toNat 0 s [] rfl (fun b hb=>by have:=hs b hb;simp;omega)
 rw[show (v9.1 - ((0:Nat):Int)).toNat=v9.1.toNat by omega]at this;rw[show iter (qZa v9) (0,rdr s,([]:List zka))=_ from this];simp
theorem wib(v9:Int × zha)(hn:v9.1<=9223372036854775807)(s:Lft)(hs:qna s):iter (q0a v9) (0,rdr s,([]:List Int))=some (rdr (lpL pN v9.1.toNat s).2,(lpL pN v9.1.toNat s).1):=by
 have:=kjb wgb v9.1 hn (body:=q0a v9) (fun i b out hi ho hb=>by
  have hsb:qna (some b):=fun b' h' =>by cases h';exact hb
  have hnum:=zGa (some b) hsb;unfold zBa at hnum;unfold q0a;dsimp only;rw[ZNa,decide_eq_true (show (i:Int) < v9.1/\(some b:Lft)≠none from ⟨hi,by simp⟩)];simp only[jAb,cond_true];rw[show ((bif decide (((rdr (some b)).b.length:Int) < 8) then some ((0,(zha.mk ([]) true))) else (iter (jOa ((i:Int),rdr (some b),out)) ((0,0))).bind fun b56=>(cut (rdr (some b)).b 8 (((rdr (some b)).b.length:Int))).bind fun v63=>some (((w64 b56),(zha.mk v63 (rdr (some b)).bad)))):Option (Int × zha))=_ from hnum];simp only[jAb,sc i (by omega)];rw[vka (by simp;omega)];rfl) (fun i s out hc=>by
  unfold q0a;dsimp only;rw[ZNa,decide_eq_false hc];rfl) (v9.1 - ((0:Nat):Int)).toNat 0 s [] rfl (fun b hb=>by have:=hs b hb;simp;omega)
 rw[show (v9.1 - ((0:Nat):Int)).toNat=v9.1.toNat by omega]at this;rw[show iter (q0a v9) (0,rdr s,([]:List Int))=_ from this];simp
theorem read_l5(v9:Int × zha)(hn:v9.1<=9223372036854775807)(s:Lft)(hs:qna s):iter (jPa v9) (0,rdr s,([]:List Int))=some (rdr (lpL pN v9.1.toNat s).2,(lpL pN v9.1.toNat s).1):=wib v9 hn s hs
def zMl:kia:=⟨⟨[],[],[]⟩,⟨[],[]⟩⟩
def pMl(s:Lft):kia × Lft:=
 let f:=pT s;let c:=pN f.2;let to:=lpL lpR c.1.toNat c.2;let id:=pT to.2;let m:=pN id.2;let fs:=lpL lpF m.1.toNat m.2;let bd:=pT fs.2
 (⟨⟨f.1,to.1,id.1⟩,⟨fs.1,bd.1⟩⟩,bd.2)
def pAt(s:Lft):(zwa × List Int) × Lft:=
 let e:=pN s;let d:=pT e.2;let c:=pN d.2;let to:=lpL pN c.1.toNat c.2;let m:=pN to.2;let rs:=lpL pN m.1.toNat m.2
 ((⟨e.1,d.1,to.1⟩,rs.1),rs.2)
def lpK(k t:Int)(s:Lft):zea × Lft:=if k==1 then (⟨k,t,(pMl s).1,⟨0,[],[]⟩,[]⟩,(pMl s).2) else (⟨k,t,zMl,(pAt s).1.1,(pAt s).1.2⟩,(pAt s).2)
def lpB(b:List UInt8):zea × Lft:=lpK (pN (some b)).1 (pN (pN (some b)).2).1 (pN (pN (some b)).2).2
theorem Joa(s:Lft):ok64 (pN s).1:=by
 cases s with
 | none=>show ok64 0;unfold ok64;omega
 | some b=>
  unfold pN;dsimp only;split
  .show ok64 0;unfold ok64;omega
  exact kCb _
theorem pN_hi(s:Lft):(pN s).1<=9223372036854775807:=by have:=Joa s;unfold ok64 at this;omega
theorem K2a(s:Lft)(h:qna s):qna (lpR s).2/\(lpR s).1.Address.length<=1048576:=⟨kra (k7a h).1,(k7a h).2⟩
theorem Wha(s:Lft)(h:qna s):qna (lpF s).2/\((lpF s).1.Name.length<=1048576/\(lpF s).1.Value.length<=1048576):=⟨(k7a (k7a h).1).1,(k7a h).2,(k7a (k7a h).1).2⟩
theorem kJb{α:Type}{item:Lft->α × Lft}{enc:α->List UInt8}(h:Ypa item enc)(n:Nat)(s:Lft)(hs:qna s):(lpL item n s).1.length<=1048576:=by
 have:=whb h n s 1048576 hs;omega
theorem wjb(s:Lft)(h:qna s):vza (pMl s).1:=by
 have a1:=k7a h;have a2:=kra a1.1;have a3:=wXa (fun s hs=>(K2a s hs).1) (pN (pT s).2).1.toNat _ a2;have a4:=k7a a3;have a5:=kra a4.1;have a6:=wXa (fun s hs=>(Wha s hs).1) (pN (pT (lpL lpR (pN (pT s).2).1.toNat (pN (pT s).2).2).2).2).1.toNat _ a5;have a7:=k7a a6;exact ⟨⟨a1.2,a4.2,kJb item_R _ _ a2,QFa (P:=fun r:zba=>r.Address.length<=1048576) K2a _ _ a2⟩,⟨kJb item_F _ _ a5,QFa (P:=fun f:zka=>f.Name.length<=1048576/\f.Value.length<=1048576) Wha _ _ a5⟩,a7.2⟩
theorem Wia:vza zMl:=⟨⟨by simp[zMl],by simp[zMl],by simp[zMl],fun r hr=>by simp[zMl]at hr⟩,⟨by simp[zMl],fun r hr=>by simp[zMl]at hr⟩,by simp[zMl]⟩
theorem wkb(s:Lft)(h:qna s):(pAt s).1.1.Domain.length<=1048576/\(pAt s).1.1.To.length<=1048576/\(pAt s).1.2.length<=1048576:=by
 have a1:=kra h;have a2:=k7a a1;have a3:=kra a2.1;have a4:=wXa (fun s hs=>kra hs) (pN (pT (pN s).2).2).1.toNat _ a3;have a5:=kra a4;exact ⟨a2.2,kJb wgb _ _ a3,kJb wgb _ _ a5⟩
theorem Wja(b:List UInt8)(h:b.length<=1048576):kha (lpB b).1:=by
 have h0:qna (some b):=fun b' hb=>by cases hb;exact h
 have h1:=kra (kra h0);unfold lpB lpK;split
 .exact ⟨wjb _ h1,by simp,by simp,by simp⟩
 obtain ⟨a1,a2,a3⟩:=wkb _ h1;exact ⟨Wia,a1,a2,a3⟩
theorem K3a(b:List UInt8)(h:b.length<=1048576):jja b=some ((lpB b).1,decide ((lpB b).2=some []) && ((rcdF (lpB b).1).Code==0)):=by
 have hsm:=Wja b h;have h0:qna (some b):=fun b' hb=>by cases hb;exact h
 have h1:=kra h0;have h2:=kra h1;have key:∀(s:Lft) (r:zea),kha r->((bif (!(rdr s).bad) then (bif (((rdr s).b.length:Int)==0) then (vxa r).bind fun v92=>(z0a v92).bind fun v94=>some ((!v94)) else some false) else some false):Option Bool)=some (decide (s=some []) && ((rcdF r).Code==0)):=by
  intro s r hr;rw[y0a r hr];cases s with
  | none=>rfl
  | some b=>
   cases b with
   | nil=>simp[rdr,z7a,bne]
   | cons c b=>
    have:(((rdr (some (c::b))).b.length:Int)==0)=false:=by
     rw[beq_eq_false_iff_ne];show (((c::b).length:Nat):Int)≠0;simp;omega
    rw[this];simp[rdr]
 unfold jja;rw[show (zha.mk b false)=rdr (some b) from rfl,zGa _ h0];simp only[jAb];rw[zGa _ h1];simp only[jAb];unfold lpB at hsm ⊢;generalize (pN (some b)).1=kk at hsm ⊢;generalize (pN (pN (some b)).2).1=tt at hsm ⊢;generalize (pN (pN (some b)).2).2=s at h2 hsm ⊢;unfold lpK at hsm ⊢;by_cases hk:kk=1
 .subst hk;rw[if_pos (by decide)]at hsm ⊢;simp only[beq_self_eq_true,cond_true];have a1:=k7a h2;have a2:=kra a1.1;have a3:=wXa (fun s hs=>(K2a s hs).1) (pN (pT s).2).1.toNat _ a2;have a4:=k7a a3;have a5:=kra a4.1;have a6:=wXa (fun s hs=>(Wha s hs).1) (pN (pT (lpL lpR (pN (pT s).2).1.toNat (pN (pT s).2).2).2).2).1.toNat _ a5;rw[kca _ h2];simp only[jAb];rw[zGa _ a1.1];simp only[jAb];rw[read_l1 _ (pN_hi _) _ a2];simp only[jAb];rw[kca _ a3];simp only[jAb];rw[zGa _ a4.1];simp only[jAb];rw[read_l2 _ (pN_hi _) _ a5];simp only[jAb];rw[kca _ a6];simp only[jAb];have:=key (pMl s).2 _ hsm;unfold pMl at this hsm ⊢;dsimp only at this hsm ⊢;rw[this];rfl
 have hk' :(kk==1)=false:=beq_eq_false_iff_ne.2 hk;rw[if_neg (by simpa using hk)]at hsm ⊢;rw[hk'];simp only[cond_false];have a1:=kra h2;have a2:=k7a a1;have a3:=kra a2.1;have a4:=wXa (fun s hs=>kra hs) (pN (pT (pN s).2).2).1.toNat _ a3;have a5:=kra a4;rw[zGa _ h2];simp only[jAb];rw[kca _ a1];simp only[jAb];rw[zGa _ a2.1];simp only[jAb];rw[wib _ (pN_hi _) _ a3];simp only[jAb];rw[zGa _ a4];simp only[jAb];rw[read_l5 _ (pN_hi _) _ a5];simp only[jAb];have:=key (pAt s).2 _ hsm;unfold pAt zMl at this hsm ⊢;dsimp only at this hsm ⊢;rw[this];rfl
structure zob (r:zea):Prop where
 kind:ok64 r.Kind
 now:ok64 r.Now
 entry:ok64 r.Attempt.Entry
 notify:∀x∈r.Mail.Envelope.To,ok64 x.Notify
 to:∀x∈r.Attempt.To,ok64 x
 res:∀x∈r.Results,ok64 x
theorem kKb(n:Nat)(h:n<=1048576):ok64 (n:Int):=by unfold ok64;omega
theorem lpR_enc(r:zba)(h1:r.Address.length<=1048576)(h2:ok64 r.Notify)(b:List UInt8):lpR (some (spR r++b))=(r,some b):=by
 unfold lpR spR;rw[jAp,QUa _ h1];dsimp only;rw[jYa _ h2]
theorem lpF_enc(f:zka)(h1:f.Name.length<=1048576)(h2:f.Value.length<=1048576)(b:List UInt8):lpF (some (spF f++b))=(f,some b):=by
 unfold lpF spF;rw[jAp,QUa _ h1];dsimp only;rw[QUa _ h2]
theorem pMl_enc(m:kia)(h:vza m)(hn:∀x∈m.Envelope.To,ok64 x.Notify)(b:List UInt8):pMl (some (spM m++b))=(m,some b):=by
 obtain ⟨t1,t2⟩:=yua h;obtain ⟨f1,f2⟩:=jqa h;have h3:=h.1.1;have h4:=h.1.2.1;have h5:=h.2.2;unfold pMl spM spRs spFs;simp only[jAp];rw[QUa _ h3];dsimp only;rw[jYa _ (kKb _ t1)];dsimp only;rw[jBe,Wga _ _ (fun x hx b=>lpR_enc x (t2 x hx) (hn x hx) b)];dsimp only;rw[QUa _ h4];dsimp only;rw[jYa _ (kKb _ f1)];dsimp only;rw[jBe,Wga _ _ (fun x hx b=>lpF_enc x (f2 x hx).1 (f2 x hx).2 b)];dsimp only;rw[QUa _ h5]
theorem pAt_enc(r:zea)(h:kha r)(ho:zob r)(b:List UInt8):pAt (some (spA r++b))=((r.Attempt,r.Results),some b):=by
 unfold pAt spA J9a;simp only[jAp];rw[jYa _ ho.entry];dsimp only;rw[QUa _ h.dom];dsimp only;rw[jYa _ (kKb _ h.to)];dsimp only;rw[jBe,Wga _ _ (fun x hx b=>jYa x (ho.to x hx) b)];dsimp only;rw[jYa _ (kKb _ h.res)];dsimp only;rw[jBe,Wga _ _ (fun x hx b=>jYa x (ho.res x hx) b)]
theorem rcd_nf{r:zea}(h:(rcdF r).Code=0):(r.Kind=1/\r.Attempt=⟨0,[],[]⟩/\r.Results=[]/\(jRa r.Mail).Code=0)∨(r.Kind=2/\r.Mail=zMl/\(wfb r).Code=0):=by
 unfold rcdF at h;by_cases h1:(r.Kind !=1 && r.Kind !=2)=true
 .rw[if_pos h1]at h;simp at h
 rw[if_neg h1]at h;by_cases h2:(!joa r.Now)=true
 .rw[if_pos h2]at h;simp at h
 rw[if_neg h2]at h;by_cases hk:r.Kind=2
 .have hk' :(r.Kind==2)=true:=by simpa using hk
  rw[hk']at h;simp only[if_true]at h;right;cases h3:noMl r.Mail with
  | false=>rw[h3]at h;simp at h
  | true=>
   rw[h3]at h;simp only[jBh,jAi,if_false]at h;refine ⟨hk,?_,h⟩;unfold noMl at h3;simp only[jAr,beq_iff_eq,decide_eq_true_eq,List.length_eq_zero_iff]at h3;obtain ⟨⟨⟨⟨a1,a2⟩,a3⟩,a4⟩,a5⟩:=h3;have:r.Mail=⟨⟨r.Mail.Envelope.From,r.Mail.Envelope.To,r.Mail.Envelope.Id⟩,⟨r.Mail.Message.Fields,r.Mail.Message.Body⟩⟩:=rfl;rw[this,a1,a2,a3,a4,a5];rfl
 have hk' :(r.Kind==2)=false:=beq_eq_false_iff_ne.2 hk;rw[hk']at h;simp only[jAi,if_false]at h;left;have hk1:r.Kind=1:=by
  simp at h1;by_cases h' :r.Kind=1
  .exact h'
  exact absurd (h1 h') hk
 cases h3:znb r with
 | false=>rw[h3]at h;simp at h
 | true=>
  rw[h3]at h;simp only[jBh,jAi,if_false]at h;unfold znb at h3;simp only[jAr,beq_iff_eq,decide_eq_true_eq,List.length_eq_zero_iff]at h3;obtain ⟨⟨⟨a1,a2⟩,a3⟩,a4⟩:=h3;refine ⟨hk1,?_,a4,?_⟩
  .have:r.Attempt=⟨r.Attempt.Entry,r.Attempt.Domain,r.Attempt.To⟩:=rfl;rw[this,a1,a2,a3]
  by_cases hm:(jRa r.Mail).Code=0
  .exact hm
  rw[if_pos (by simpa using hm)]at h;exact absurd h hm
theorem lpB_enc(r:zea)(h:kha r)(ho:zob r)(hf:(rcdF r).Code=0):lpB (spB r)=(r,some []):=by
 unfold lpB spB;simp only[jAp];rw[jYa _ ho.kind];dsimp only;rw[jYa _ ho.now];dsimp only;unfold lpK;rcases rcd_nf hf with ⟨hk,ha,hr,_⟩ | ⟨hk,hm,_⟩
 .rw[hk];simp only[beq_self_eq_true,if_true];have:=pMl_enc r.Mail h.mail ho.notify [];rw[jCn]at this;rw[this,<-ha,<-hr,<-hk]
 rw[hk];simp only[show ((2:Int)==1)=false from rfl,jAi,if_false];have:=pAt_enc r h ho [];rw[jCn]at this;rw[this,<-hm,<-hk]
theorem ok64_0:ok64 0:=by unfold ok64;omega
theorem lpB_ok(b:List UInt8)(h:b.length<=1048576):zob (lpB b).1:=by
 have h0:qna (some b):=fun b' hb=>by cases hb;exact h
 have h1:=kra (kra h0);unfold lpB lpK;split
 .refine ⟨Joa _,Joa _,ok64_0,?_,fun x hx=>(by cases hx),fun x hx=>(by cases hx)⟩;have a1:=k7a h1;have a2:=kra a1.1;exact QFa (P:=fun r:zba=>ok64 r.Notify) (fun s hs=>⟨(K2a s hs).1,Joa _⟩) _ _ a2
 have a1:=kra h1;have a2:=k7a a1;have a3:=kra a2.1;have a4:=wXa (fun s hs=>kra hs) (pN (pT (pN (pN (pN (some b)).2).2).2).2).1.toNat _ a3;have a5:=kra a4;exact ⟨Joa _,Joa _,Joa _,fun x hx=>(by simp[zMl]at hx),QFa (P:=fun x:Int=>ok64 x) (fun s hs=>⟨kra hs,Joa _⟩) _ _ a3,QFa (P:=fun x:Int=>ok64 x) (fun s hs=>⟨kra hs,Joa _⟩) _ _ a5⟩
def accP(b:List UInt8):Option (zea × Nat):=match (pN (pT (some b)).2).2 with
 | none=>none
 | some rest=>if decide ((lpB (pT (some b)).1).2=some []) && ((rcdF (lpB (pT (some b)).1).1).Code==0) && (spB (lpB (pT (some b)).1).1==(pT (some b)).1) && ((pN (pT (some b)).2).1==w64 (sumB (pT (some b)).1)) then some ((lpB (pT (some b)).1).1,b.length - rest.length) else none
def zRec:zea:=⟨0,0,zMl,⟨0,[],[]⟩,[]⟩
theorem kLb{a b:Int}(ha:ok64 a)(hb:ok64 b)(h:num8 a=num8 b):a=b:=by
 rw[<-QDa a ha,h,QDa b hb]
theorem kMb{s t:Str}{x y:List UInt8}(hs:s.length<=35184372088832)(ht:t.length<=35184372088832)(h:encT s++x=encT t++y):s=t/\x=y:=by
 unfold encT at h;rw[jAp,jAp]at h;obtain ⟨h1,h2⟩:=List.append_inj h (by rw[zVa,zVa]);have h3:=kLb (by unfold ok64;omega) (by unfold ok64;omega) h1;exact List.append_inj h2 (by omega)
theorem jTa(r:zea):(spE r).length=(spB r).length+16:=by
 unfold spE;rw[jAf,kLa,zVa];omega
theorem K4a(a b:List UInt8)(h:a.length<=9223372036854775807):qla a b=some (b.isPrefixOf a):=by
 unfold qla wDa;by_cases hl:b.length<=a.length
 .rw[decide_eq_true (show (b.length:Int)<=(a.length:Int) by omega),Z8a hl];simp only[cond_true,jAb,Option.some.injEq];rw[jAz,beq_iff_eq,jCv,List.prefix_iff_eq_take];exact eq_comm
 rw[decide_eq_false (show ¬(b.length:Int)<=(a.length:Int) by omega)];simp only[cond_false,jAb,Option.some.injEq]
 symm
 rw[Bool.eq_false_iff];intro hc;rw[jCv]at hc;exact hl hc.length_le
theorem pre_eq{b body rest:List UInt8}{sm:Int}(r:zea)(hb:b=encT body++(num8 sm++rest))(ho:ok64 sm)(hl:body.length<=1048576)(hr:(spB r).length<=17592186044416):(spE r).isPrefixOf b=((spB r==body) && (sm==w64 (sumB body))):=by
 rw[jAz,jCv,jAr,beq_iff_eq,beq_iff_eq];constructor
 .rintro ⟨t,ht⟩;rw[hb]at ht;unfold spE at ht;rw[jAp]at ht;obtain ⟨h1,h2⟩:=kMb (by omega) (by omega) ht;obtain ⟨h3,_⟩:=List.append_inj h2 (by rw[zVa,zVa]);exact ⟨h1,by rw[<-h1];exact (kLb (kCb _) ho h3).symm⟩
 rintro ⟨h1,h2⟩;refine ⟨rest,?_⟩;unfold spE;rw[hb,h1,h2];simp
theorem Wka{b:List UInt8}{r:zea}{n:Nat}(hl:b.length<=1048576)(h:accP b=some (r,n)):kha r/\zob r/\(rcdF r).Code=0/\(∃rest,b=spE r++rest)/\n=(spE r).length:=by
 have h0:qna (some b):=fun b' hb=>by cases hb;exact hl
 have hT:=k7a h0;unfold accP at h;cases hrest:(pN (pT (some b)).2).2 with
 | none=>rw[hrest]at h;cases h
 | some rest=>
  rw[hrest]at h;dsimp only at h;split at h
  .rename_i hc;cases h;simp only[jAr,decide_eq_true_eq,beq_iff_eq]at hc;obtain ⟨⟨⟨c1,c2⟩,c3⟩,c4⟩:=hc;obtain ⟨b1,e1,e2,e5,e6⟩:=Yfa (s:=(pT (some b)).2) (n:=(pN (pT (some b)).2).1) (b:=rest) (by rw[<-hrest]);obtain ⟨b0,e3,e4,e7⟩:=Yga (s:=some b) (t:=(pT (some b)).1) (b:=b1) (by rw[<-e1]);cases e3;have hb:b=spE (lpB (pT (some b)).1).1++rest:=by
    unfold spE;rw[c3,<-c4,jAp,<-e6];exact e7
   refine ⟨Wja _ hT.2,lpB_ok _ hT.2,c2,⟨rest,hb⟩,?_⟩;have:=congrArg List.length hb;rw[jAf]at this;omega
  cases h
theorem kNb{r:zea}(h:kha r)(ho:zob r)(hf:(rcdF r).Code=0)(hl:(spB r).length<=1048576)(rest:List UInt8):accP (spE r++rest)=some (r,(spE r).length):=by
 have e1:pT (some (spE r++rest))=(spB r,some (num8 (w64 (sumB (spB r)))++rest)):=by
  unfold spE;rw[jAp,QUa _ hl]
 have e2:=jYa (w64 (sumB (spB r))) (kCb _) rest;unfold accP;rw[e1];dsimp only;rw[e2];dsimp only;rw[lpB_enc r h ho hf];simp[hf]
def rdsN:Nat->List UInt8->List zea × Nat
 | 0,_=>([],0)
 | k+1,b=>match accP b with
  | none=>([],0)
  | some (r,n)=>(r::(rdsN k (b.drop n)).1,n+(rdsN k (b.drop n)).2)
theorem Zwa{k:Nat}{b:List UInt8}(h:accP b=none):rdsN k b=([],0):=by
 cases k with
 | zero=>rfl
 | succ k=>unfold rdsN;rw[h]
theorem K5a{k:Nat}{b:List UInt8}{r:zea}{n:Nat}(h:accP b=some (r,n)):rdsN (k+1) b=(r::(rdsN k (b.drop n)).1,n+(rdsN k (b.drop n)).2):=by
 rw[show rdsN (k+1) b=(match accP b with | none=>([],0) | some (r,n)=>(r::(rdsN k (b.drop n)).1,n+(rdsN k (b.drop n)).2)) from rfl,h]
theorem zpb(a0:List UInt8)(hl:a0.length<=1048576)(at_:Nat)(hat:at_<=a0.length)(out:List zea)(ho:out.length<=1000):q1a a0 ((at_:Int),(at_:Int),out)=some (match accP (a0.drop at_) with
 | none=>.out (.inl ((at_:Int),out))
 | some (r,n)=>if out.length+1=100 then .out (.inr (((at_+n:Nat):Int),out++ [r])) else .cont (((at_+n:Nat):Int),((at_+n:Nat):Int),out++ [r])):=by
 have hdl:(a0.drop at_).length<=1048576:=by rw[jCh];omega
 have h0:qna (some (a0.drop at_)):=fun b' hb=>by cases hb;exact hdl
 have hT:=k7a h0;have hcut:cut a0 (at_:Int) (a0.length:Int)=some (a0.drop at_):=V3a hat;cases hacc:accP (a0.drop at_) with
 | none=>
  unfold q1a;dsimp only;rw[hcut];simp only[jAb];rw[show (zha.mk (a0.drop at_) false)=rdr (some (a0.drop at_)) from rfl,kca _ h0];simp only[jAb];rw[zGa _ hT.1];simp only[jAb];cases hrest:(pN (pT (some (a0.drop at_))).2).2 with
  | none=>rfl
  | some rest=>
   simp only[show (rdr (some rest)).bad=false from rfl,cond_false];rw[K3a _ hT.2];simp only[jAb];have hsm:=Wja _ hT.2;rw[yva _ hsm];simp only[jAb];rw[K4a _ _ (by omega)];simp only[jAb];obtain ⟨b1,e1,e2,e5,e6⟩:=Yfa (s:=(pT (some (a0.drop at_))).2) (n:=(pN (pT (some (a0.drop at_))).2).1) (b:=rest) (by rw[<-hrest]);obtain ⟨b0,e3,e4,e7⟩:=Yga (s:=some (a0.drop at_)) (t:=(pT (some (a0.drop at_))).1) (b:=b1) (by rw[<-e1]);cases e3;rw[e6]at e7;have hpre:=pre_eq (lpB (pT (some (a0.drop at_))).1).1 e7 e5 hT.2 (Kpa hsm);unfold accP at hacc;rw[hrest]at hacc;dsimp only at hacc;split at hacc
   .cases hacc
   rename_i hc;have:((bif (!(decide ((lpB (pT (some (a0.drop at_))).1).2=some []) && ((rcdF (lpB (pT (some (a0.drop at_))).1).1).Code==0))) then some true else some (!((spE (lpB (pT (some (a0.drop at_))).1).1).isPrefixOf (a0.drop at_)))):Option Bool)=some true:=by
    rw[hpre];rw[Bool.and_assoc,Bool.not_eq_true]at hc;cases h1:decide ((lpB (pT (some (a0.drop at_))).1).2=some []) && ((rcdF (lpB (pT (some (a0.drop at_))).1).1).Code==0) with
    | false=>rfl
    | true=>
     rw[h1,jDq]at hc;rw[hc];rfl
   rw[this];rfl
 | some rn=>
  obtain ⟨r,n⟩:=rn;obtain ⟨q1,q2,q3,⟨rest0,q4⟩,q5⟩:=Wka hdl hacc;unfold q1a;dsimp only;rw[hcut];simp only[jAb];rw[show (zha.mk (a0.drop at_) false)=rdr (some (a0.drop at_)) from rfl,kca _ h0];simp only[jAb];rw[zGa _ hT.1];simp only[jAb];unfold accP at hacc;cases hrest:(pN (pT (some (a0.drop at_))).2).2 with
  | none=>rw[hrest]at hacc;cases hacc
  | some rest=>
   rw[hrest]at hacc;dsimp only at hacc;split at hacc
   .rename_i hc;cases hacc;simp only[jAr]at hc;obtain ⟨⟨⟨c1,c2⟩,c3⟩,c4⟩:=hc;simp only[show (rdr (some rest)).bad=false from rfl,cond_false];rw[K3a _ hT.2];simp only[jAb];rw[yva _ q1];simp only[jAb,c1,c2,Bool.and_self,jBh,cond_false];rw[K4a _ _ (by omega)];have hpre:(spE (lpB (pT (some (a0.drop at_))).1).1).isPrefixOf (a0.drop at_)=true:=by
     rw[jCv];exact ⟨rest0,q4.symm⟩
    rw[hpre];simp only[jAb,jBh,cond_false];rw[vka (by simp;omega)];simp only[jAb];have hlen:(spE (lpB (pT (some (a0.drop at_))).1).1).length<=1048576:=by
     have:=congrArg List.length q4;rw[jAf]at this;omega
    rw[Yaa _ _ (by omega),<-q5];have e9:(((out++ [(lpB (pT (some (a0.drop at_))).1).1]).length:Int)==100)=decide (out.length+1=100):=by
     rw[jAf,jDh,jAz];simp;omega
    rw[e9];by_cases h100:out.length+1=100
    .rw[decide_eq_true h100,if_pos h100];rfl
    rw[decide_eq_false h100,if_neg h100];rfl
   cases hacc
theorem accP_le{b:List UInt8}{r:zea}{n:Nat}(hl:b.length<=1048576)(h:accP b=some (r,n)):16<=n/\n<=b.length:=by
 obtain ⟨_,_,_,⟨rest,h1⟩,h2⟩:=Wka hl h;have:=congrArg List.length h1;rw[jAf]at this;have h3:=jTa r;omega
theorem wlb(a0:List UInt8)(hl:a0.length<=1048576):∀(k at_:Nat) (out:List zea),at_<=a0.length->out.length+(k+1)=100->
 ∃z,iter (q1a a0) ((at_:Int),(at_:Int),out)=some z/\(z=.inl (((at_+(rdsN (k+1) (a0.drop at_)).2:Nat):Int),out++(rdsN (k+1) (a0.drop at_)).1)∨z=.inr (((at_+(rdsN (k+1) (a0.drop at_)).2:Nat):Int),out++(rdsN (k+1) (a0.drop at_)).1)):=by
 intro k;induction k with
 | zero=>
  intro at_ out hat ho;have hs:=zpb a0 hl at_ hat out (by omega);cases hacc:accP (a0.drop at_) with
  | none=>
   rw[hacc]at hs;refine ⟨_,zSa hs,.inl ?_⟩;rw[Zwa hacc];simp
  | some rn=>
   obtain ⟨r,n⟩:=rn;rw[hacc]at hs;dsimp only at hs;rw[if_pos (by omega)]at hs;refine ⟨_,zSa hs,.inr ?_⟩;rw[K5a hacc];simp[rdsN]
 | succ k ih=>
  intro at_ out hat ho;have hs:=zpb a0 hl at_ hat out (by omega);cases hacc:accP (a0.drop at_) with
  | none=>
   rw[hacc]at hs;refine ⟨_,zSa hs,.inl ?_⟩;rw[Zwa hacc];simp
  | some rn=>
   obtain ⟨r,n⟩:=rn;rw[hacc]at hs;dsimp only at hs;rw[if_neg (by omega)]at hs;have hn:=accP_le (by rw[jCh];omega) hacc;rw[jCh]at hn;rw[z1a hs];obtain ⟨z,hz1,hz2⟩:=ih (at_+n) (out++ [r]) (by omega) (by simp;omega);refine ⟨z,hz1,?_⟩;rw[K5a hacc,List.drop_drop];simpa[jBs]using hz2
def zqb(a0:List UInt8):List zea × Int × zsa:=if 200000 < a0.length then ([],0,⟨1, -1⟩) else ((rdsN 100 a0).1,((rdsN 100 a0).2:Int),⟨0,0⟩)
theorem jUa(a0:List UInt8)(hl:a0.length<=1048576):v5a a0=some (zqb a0):=by
 unfold v5a zqb;by_cases hb:200000 < a0.length
 .rw[decide_eq_true (show (200000:Int) < (a0.length:Int) by omega),if_pos hb];rfl
 rw[decide_eq_false (show ¬(200000:Int) < (a0.length:Int) by omega),if_neg hb];simp only[cond_false,kDa];obtain ⟨z,hz1,hz2⟩:=wlb a0 hl 99 0 [] (by omega) rfl;rw[show iter (q1a a0) (0,0,([]:List zea))=some z from hz1];simp only[List.drop_zero,jBz,jCt]at hz2;rcases hz2 with rfl | rfl <;> rfl
def w5a(e:zca):Int:=min (e.Tries+1) 1000000
def Zxa(e:zca)(rs:List Int)(now:Int):Bool:=if rs.any latR then (j2a e.Since (w5a e) now).2 else true
def vKa(e:zca)(rs:List Int)(now:Int):zca:=if rs.any latR then ⟨e.Id,e.Mail,e.Since,w5a e,if (j2a e.Since (w5a e) now).2 then max (j2a e.Since (w5a e) now).1 e.Due else e.Due,e.To⟩ else e
def resP(e:zca)(a:zwa)(rs:List Int)(now:Int):List zla × List zga:=(a.To.zip rs).foldl (resS (Zxa e rs now) a.Entry) ([],e.To)
def Q8a(e:zca):Bool:=e.To.any opnW
def noE:zca:=⟨0,⟨⟨[],[],[]⟩,⟨[],[]⟩⟩,0,0,0,[]⟩
def endP(q:zva)(a:zwa)(rs:List Int)(now:Int)(n:Nat)(e:zca):zva × List zla × zsa:=(⟨(q.Entries.set n (wTo (vKa e rs now) (resP e a rs now).2)).filter Q8a,q.Next⟩,(resP e a rs now).1,⟨0,0⟩)
def Q9a(q:zva)(a:zwa)(rs:List Int)(now:Int):zva × List zla × zsa:=
 if (queF q).Code !=0 then (⟨[],0⟩,[],queF q) else if (attP q a true).2.Code !=0 then (⟨[],0⟩,[],(attP q a true).2) else
 if rs.length≠a.To.length then (⟨[],0⟩,[],⟨9, -6⟩) else if rs.any badR then (⟨[],0⟩,[],⟨3, -6⟩) else if !joa now then (⟨[],0⟩,[],⟨3, -7⟩) else
 if now < ((q.Entries[(attP q a true).1.toNat]?).getD noE).Since then (⟨[],0⟩,[],⟨19, -7⟩) else endP q a rs now (attP q a true).1.toNat ((q.Entries[(attP q a true).1.toNat]?).getD noE)
def Wla(T:List zga)(M:List zba):Prop:=T.length=M.length/\∀(j:Nat) (w:zga) (r:zba),T[j]? =some w->M[j]? =some r->wBad w r=false
theorem zrb(T:List zga)(M:List zba):Wla T M↔(T.length=M.length/\((T.zip M).any fun p=>wBad p.1 p.2)=false):=by
 unfold Wla;refine and_congr Iff.rfl ?_;rw[jCr];constructor
 .rintro h ⟨w,r⟩ hx hb;obtain ⟨j,hj⟩:=List.mem_iff_getElem?.1 hx;rw[List.getElem?_zip_eq_some]at hj;rw[h j w r hj.1 hj.2]at hb;cases hb
 intro h j w r h1 h2;have:=h (w,r) (jAd (i:=j) (by rw[List.getElem?_zip_eq_some];exact ⟨h1,h2⟩));simpa using this
theorem qFb{again:Bool}{T:List zga}{M:List zba}{kv:Int × Int}(h:Wla T M)(hv:badR kv.2=false):Wla (resK again T kv) M:=by
 refine ⟨by rw[Voa];exact h.1,fun j w r h1 h2=>?_⟩;unfold resK at h1;split at h1
 .rename_i w0 hw0;by_cases hj:kv.1.toNat=j
  .subst hj;rw[jBo (z5a hw0)]at h1;cases h1;have:=h.2 _ w0 r hw0 h2;unfold wBad at this ⊢;simp only[Bool.or_eq_false_iff]at this;obtain ⟨⟨a1,a2⟩,a3⟩:=this;rw[a1];have:finV again kv.2=0∨finV again kv.2=1∨finV again kv.2=3:=by
    unfold badR at hv;simp at hv;unfold finV;cases hl:latR kv.2 with
    | true=>cases again <;> simp
    | false=>
     unfold latR at hl;simp at hl;simp only[jAi,if_false];omega
   rcases this with h | h | h <;> simp[h]
  rw[jBp hj]at h1;exact h.2 j w r h1 h2
 exact h.2 j w r h1 h2
theorem Yqa{again:Bool}{id:Int}{M:List zba}:∀(l:List (Int × Int)) (s:List zla × List zga),(∀kv∈l,badR kv.2=false)->Wla s.2 M->Wla (l.foldl (resS again id) s).2 M
 | [],s,_,h=>h
 | kv::l,s,hb,h=>Yqa l _ (fun x hx=>hb x (by simp[hx])) (qFb h (hb kv (by simp)))
theorem qGb{e:zca}(h:Wla e.To e.Mail.Envelope.To):Q7a e=Q8a e:=by
 unfold Q7a Q8a;rw[zrb]at h;rw[decide_eq_true h.1,h.2];rfl
theorem K6a{e:zca}(h:Q7a e=true):Wla e.To e.Mail.Envelope.To/\Q8a e=true:=by
 unfold Q7a at h;simp only[jAr,decide_eq_true_eq,jBy]at h;exact ⟨(zrb _ _).2 ⟨h.1.1,h.1.2⟩,h.2⟩
theorem zsb{α:Type}{L:List α}{n:Nat}(x:α)(hn:n < L.length):L.set n x=L.take n++x::L.drop (n+1):=by
 rw[List.set_eq_take_append_cons_drop,if_pos hn]
theorem qHb{L:List zca}{n:Nat}{x:zca}(hn:n < L.length)(h:∀e∈L,Q8a e=true):(L.set n x).filter Q8a=if Q8a x then L.set n x else L.take n++L.drop (n+1):=by
 rw[zsb x hn,List.filter_append,List.filter_cons,List.filter_eq_self.2 (fun e he=>h e (jCp he)),List.filter_eq_self.2 (fun e he=>h e (jDi he))];split <;> rfl
theorem wmb{L2:List zca}{n:Nat}{x:zca}(hn:n < L2.length)(hl:L2.length<=1048576)(hx:L2[n]? =some x)(hxl:x.To.length<=1048576)(hg:Wla x.To x.Mail.Envelope.To):((idx L2 (n:Int)).bind fun v137=>(qVa v137).bind fun v139=>(bif (!v139) then ((cut3 L2 (n:Int) ((w64 ((n:Int)+1))) ((L2.length:Int))).bind fun v143=>(bif ((n:Int)==(w64 ((n:Int)+1))) then some L2 else (cut L2 0 (n:Int)).bind fun v146=>(cut L2 ((w64 ((n:Int)+1))) (L2.length:Int)).bind fun v148=>(shft L2 (n:Int) ((w64 ((n:Int)+1)))).bind fun v150=>(VGa v150 (((((Int.toNat (n:Int))+(L2.length - (Int.toNat ((w64 ((n:Int)+1)))))):Nat):Int)) ((L2.length:Int))).bind fun v152=>some ((List.take ((Int.toNat (n:Int))+(L2.length - (Int.toNat ((w64 ((n:Int)+1)))))) ((clr0 v150 (Int.toNat (((((Int.toNat (n:Int))+(L2.length - (Int.toNat ((w64 ((n:Int)+1)))))):Nat):Int))) ((zca.mk 0 ((kia.mk ((zNa.mk (([]:Str)) ([]) (([]:Str)))) ((zHa.mk ([]) ([]))))) 0 0 0 ([])))))))):Option (List zca)).bind fun (j142:List zca)=>some j142 else some L2):Option (List zca))=some (if Q8a x then L2 else L2.take n++L2.drop (n+1)):=by
 rw[zEa hx];simp only[jAb];rw[j0a x hxl,qGb hg];simp only[jAb];cases Q8a x with
 | true=>rfl
 | false=>
  simp only[Bool.not_false,cond_true,jAi,if_false];rw[delAt_eq L2 n _ hn hl];rfl
theorem kOb(rs:List Int)(P:Int->Bool)(hl:rs.length<=1048576){body:Int->Option (Step Int (Unit ⊕ Int))}(hout:body (rs.length:Int)=some (.out (.inl ())))(hb:∀(i:Nat) (v:Int),rs[i]? =some v->body (i:Int)=some (if P v then .out (.inr (i:Int)) else .cont ((i+1:Nat):Int))):
 ∃z:Int,((iter body 0).bind (Sum.elim (fun _=>some ((-1))) (fun b=>some b)):Option Int)=some z/\decide (0<=z)=rs.any P:=by
 refine ⟨_,?_,zlb P rs⟩;rw[kKa rs (fun i x=>if P x then some ((i:Nat):Int) else none) (.inl ()) .inr]
 .simp only[jAb,Vma]
 .exact hout
 intro i x hx;rw[hb i x hx];cases P x <;> rfl
theorem any_bad(rs:List Int)(hl:rs.length<=1048576):∃z:Int,((iter (wja rs) 0).bind (Sum.elim (fun _=>some ((-1))) (fun b=>some b)):Option Int)=some z/\decide (0<=z)=rs.any badR:=
 kOb rs badR hl (by unfold wja;rw[z6a];rfl) (fun i v hv=>by
  have:=z5a hv;unfold wja;rw[kua hv,zEa hv];simp only[cond_true,jAb,badB,sc i (by omega)];cases badR v <;> rfl)
theorem any_late(rs:List Int)(hl:rs.length<=1048576):∃z:Int,((iter (wka rs) 0).bind (Sum.elim (fun _=>some ((-1))) (fun b=>some b)):Option Int)=some z/\decide (0<=z)=rs.any latR:=
 kOb rs latR hl (by unfold wka;rw[z6a];rfl) (fun i v hv=>by
  have:=z5a hv;unfold wka;rw[kua hv,zEa hv];simp only[cond_true,jAb,latB,sc i (by omega)];cases latR v <;> rfl)
theorem lateE_id(e:zca)(rs:List Int)(now:Int):(vKa e rs now).Id=e.Id:=by unfold vKa;split <;> rfl
theorem Yra(e:zca)(rs:List Int)(now:Int):(vKa e rs now).Mail=e.Mail:=by unfold vKa;split <;> rfl
theorem kPb(e:zca)(rs:List Int)(now:Int):wTo (vKa e rs now) e.To=vKa e rs now:=by unfold vKa;split <;> rfl
theorem kQb(e:zca)(a:zwa)(rs:List Int)(now:Int):(resP e a rs now).2.length=e.To.length:=by
 unfold resP;have:∀(l:List (Int × Int)) (s:List zla × List zga),(l.foldl (resS (Zxa e rs now) a.Entry) s).2.length=s.2.length:=by
  intro l;induction l with
  | nil=>intro s;rfl
  | cons kv l ih=>intro s;rw[List.foldl_cons,ih];exact Voa _ _ _
 rw[this]
theorem zip_bad{ks rs:List Int}(h:∀v∈rs,badR v=false):∀kv∈ks.zip rs,badR kv.2=false:=fun kv hkv=>h kv.2 (List.of_mem_zip hkv).2
theorem Jpa(q:zva)(a:zwa)(rs:List Int)(now:Int)(hq:yta q)(hw:w0a q)(hl:a.To.length<=1048576)(hrs:rs.length<=1048576):jga q a rs now=some (Q9a q a rs now):=by
 unfold jga Q9a;rw[j1a q a true hq hw hl];simp only[jAb,z7a,zMa,kDa,wta];by_cases hc:(queF q).Code=0
 .obtain ⟨ok,hF⟩:=Wda hc;have h1:((queF q).Code !=0)=false:=by simp[hc]
  have hn:=ok.n;rw[h1];simp only[jAi,if_false];by_cases hca:(attP q a true).2.Code=0
  .obtain ⟨n,e,ha,he,hid,ht,t1,t2⟩:=Jka hca;have hne:=z5a he;have hem:=jAd he;obtain ⟨o1,o2,o3,o4,o5⟩:=ok.ent e hem;rw[ha];simp only[bne_self_eq_false,cond_false,jAi,if_false,jBe,he,jBr];by_cases hlen:rs.length=a.To.length
   .rw[show ((rs.length:Int) !=(a.To.length:Int))=false by rw[hlen];simp,if_neg (fun h=>h hlen)];simp only[cond_false];obtain ⟨z,hz,hzd⟩:=any_bad rs hrs;rw[hz];simp only[jAb,hzd];cases hbad:rs.any badR with
    | true=>rfl
    | false=>
     simp only[cond_false,jAi,if_false];show (bif !joa now then _ else _)=_;cases htm:joa now with
     | false=>rfl
     | true=>
      simp only[jBh,cond_false,jAi,if_false,zEa he,jAb];by_cases hsi:now < e.Since
      .rw[decide_eq_true hsi,if_pos hsi];rfl
      rw[decide_eq_false hsi,if_neg hsi];simp only[cond_false];rw[vAa _ (by omega)];simp only[jAb];rw[show iter (jLa q.Entries) (0,0,q.Entries)=some (q.Entries,q.Entries.length) from Wba q.Entries (Yoa hq ok)];simp only[jAb,zEa he];have hbads:∀v∈rs,badR v=false:=fun v hv=>by rw[jCr]at hbad;simpa using hbad v hv
      have hg:Wla (wTo (vKa e rs now) (resP e a rs now).2).To (wTo (vKa e rs now) (resP e a rs now).2).Mail.Envelope.To:=by
       show Wla (resP e a rs now).2 (vKa e rs now).Mail.Envelope.To;rw[Yra];exact Yqa _ _ (zip_bad hbads) (K6a o5).1
      have hto:=(hw e hem).1;have htail:=wmb (L2:=q.Entries.set n (wTo (vKa e rs now) (resP e a rs now).2)) (n:=n) (x:=wTo (vKa e rs now) (resP e a rs now).2) (by simpa using hne) (by simp;omega) (by simp[hne]) (by show (resP e a rs now).2.length<=_;rw[kQb];omega) hg;have hfil:=qHb (L:=q.Entries) (x:=wTo (vKa e rs now) (resP e a rs now).2) hne (fun y hy=>(K6a (ok.ent y hy).2.2.2.2).2);have hfil2:(if Q8a (wTo (vKa e rs now) (resP e a rs now).2) then q.Entries.set n (wTo (vKa e rs now) (resP e a rs now).2) else (q.Entries.set n (wTo (vKa e rs now) (resP e a rs now).2)).take n++(q.Entries.set n (wTo (vKa e rs now) (resP e a rs now).2)).drop (n+1))=(q.Entries.set n (wTo (vKa e rs now) (resP e a rs now).2)).filter Q8a:=by
       rw[hfil];split
       .rfl
       rw[zsb _ hne];have hln:(q.Entries.take n).length=n:=by simp;omega
       rw[List.take_append_of_le_length (by omega),List.take_of_length_le (by omega),List.drop_append,hln,List.drop_of_length_le (by omega)];simp
      rw[hfil2]at htail;simp only[jBe]at htail;obtain ⟨y,hy,hyd⟩:=any_late rs hrs;rw[hy];simp only[jAb,hyd];have hrng:=o4;unfold rngQ at hrng;simp only[jAr,decide_eq_true_eq]at hrng;have htr:1<=w5a e/\w5a e<=1000000:=by unfold w5a;omega
      have hid1:(vKa e rs now).Id=a.Entry:=by rw[lateE_id,hid]
      cases hlat:rs.any latR with
      | false=>
       simp only[cond_false,jAb];have hs:vKa e rs now=e:=by unfold vKa;rw[hlat];rfl
       have hlp:=zmb (a:=a) (rs:=rs) (f:=⟨0,0⟩) (L:=q.Entries) (n:=n) (e:=e) (e1:=vKa e rs now) (again:=Zxa e rs now) (j3:=((n:Int),0,0)) (j60:=(true,q.Entries)) (j63:=(0,[])) (b:=(q.Entries,q.Entries.length)) (m:=0) hne hne hl hlen hbads hid1 rfl (fun h=>by rw[hlat]at h;cases h) (fun h=>by rw[hlat]at h;cases h) (.inl rfl) a.To [] rs [] (-1) [] e.To rfl rfl rfl (by omega) ht rfl (fun j _=>rfl) (jBc _);have hs0:q.Entries.set n (vKa e rs now)=q.Entries:=by rw[hs,Jea he]
       rw[kPb,hs0]at hlp;rw[show iter (qWa a rs ((n:Int),⟨0,0⟩) (q.Entries,q.Entries.length) (true,q.Entries)) (0,([]:List zla),q.Entries)=some ((resP e a rs now).1,q.Entries.set n (wTo (vKa e rs now) (resP e a rs now).2)) from hlp];simp only[jAb];rw[htail];rfl
      | true=>
       have hw64:w64 (e.Tries+1)=e.Tries+1:=v1a (by omega) (by omega);simp only[cond_true,jAb,Zva hne,hw64,jBe,jDu];rw[show min (e.Tries+1) 1000000=w5a e from rfl];rw[Jma e.Since (w5a e) now hrng.1.1.1 htm htr (by omega)];simp only[jAb];have hag:Zxa e rs now=(j2a e.Since (w5a e) now).2:=by unfold Zxa;rw[hlat];rfl
       have hj:∀X:List zca,X=q.Entries.set n (vKa e rs now)->iter (qWa a rs ((n:Int),⟨0,0⟩) (q.Entries,q.Entries.length) ((j2a e.Since (w5a e) now).2,X)) (0,([]:List zla),X)=some ((resP e a rs now).1,q.Entries.set n (wTo (vKa e rs now) (resP e a rs now).2)):=by
        rintro X rfl;have hlp:=zmb (a:=a) (rs:=rs) (f:=⟨0,0⟩) (L:=q.Entries) (n:=n) (e:=e) (e1:=vKa e rs now) (again:=Zxa e rs now) (j3:=((n:Int),0,0)) (j60:=((j2a e.Since (w5a e) now).2,q.Entries.set n (vKa e rs now))) (j63:=(if Zxa e rs now then 0 else 3,[])) (b:=(q.Entries,q.Entries.length)) (m:=0) hne hne hl hlen hbads hid1 rfl (fun h=>hag.symm) (fun h=>rfl) (.inl rfl) a.To [] rs [] (-1) [] e.To rfl rfl rfl (by omega) ht rfl (fun j _=>rfl) (jBc _);rw[kPb]at hlp;exact hlp
       have hlate:vKa e rs now=⟨e.Id,e.Mail,e.Since,w5a e,if (j2a e.Since (w5a e) now).2 then max (j2a e.Since (w5a e) now).1 e.Due else e.Due,e.To⟩:=by unfold vKa;rw[hlat];rfl
       cases hg2:(j2a e.Since (w5a e) now).2 with
       | true=>
        rw[hg2]at hj hlate;simp only[cond_true,jAb,Zva hne,jDu,jBe];rw[hj _ (by rw[hlate];rfl)];simp only[jAb];rw[htail];rfl
       | false=>
        rw[hg2]at hj hlate;simp only[cond_false,jAb];rw[hj _ (by rw[hlate];rfl)];simp only[jAb];rw[htail];rfl
   rw[show ((rs.length:Int) !=(a.To.length:Int))=true by simp;omega,if_pos hlen];rfl
  have h2:((attP q a true).2.Code !=0)=true:=by simpa using hca
  rw[h2];rfl
 have h1:((queF q).Code !=0)=true:=by simpa using hc
 rw[h1];simp only[if_true,h1,cond_true]
theorem Ysa(l:List Int)(h:l.length<=1048576):W9a l l=some true:=by
 unfold W9a;simp only[bne_self_eq_false,cond_false];rw[kKa l (fun _ _=>(none:Option Bool)) (.inl ()) .inr]
 .rw[q2a.2 (fun _ _ _=>rfl)];rfl
 .unfold KNa;rw[z6a];rfl
 intro k w hw;have hk:=z5a hw;unfold KNa;rw[kua hw,zEa hw];simp only[cond_true,jAb,bne_self_eq_false,cond_false,sc k (by omega)];rfl
theorem ZRa(l:List zla)(h:l.length<=1048576):vwa l l=some true:=by
 unfold vwa;simp only[bne_self_eq_false,cond_false];rw[kKa l (fun _ _=>(none:Option Bool)) (.inl ()) .inr]
 .rw[q2a.2 (fun _ _ _=>rfl)];rfl
 .unfold vja;rw[z6a];rfl
 intro k w hw;have hk:=z5a hw;unfold vja;rw[kua hw,zEa hw];simp only[cond_true,jAb,beq_self_eq_true,sc k (by omega)];rfl
theorem wnb(l:List Str)(hl:l.length<=1048576):KOa l=some ⟨⟨[115,64,120],l.map (fun s=>⟨s,1⟩),[55]⟩,⟨[],[]⟩⟩:=by
 unfold KOa;have:=(Zpa l (fun i (s:List zba)=>(i,s)) (fun s x=>s++ [(⟨x,1⟩:zba)]) id (fun i s=>s.length<=i) (body:=yra l)
  (fun s _=>by unfold yra;simp[z6a]) (fun i x s hx hi=>by
   have hlt:=z5a hx;refine ⟨?_,by simp;omega⟩;unfold yra;dsimp only;rw[kua hx,zEa hx];simp only[cond_true,jAb,sc i (by omega)];rw[vka (by simp;omega)];rfl) [] (by simp)).1
 rw[this,kGb];rfl
theorem kya:yta ⟨[],0⟩:=⟨by simp,fun e he=>by cases he⟩
theorem Kra(q:zva)(a:zwa)(hq:yta q):yta (Zua q a).1:=by
 unfold Zua;split
 .exact kya
 split
 .exact kya
 split
 .exact kya
 show yta ⟨Yna _ _ _,_⟩;unfold Yna;split
 .rename_i e he;refine ⟨by simp;exact hq.1,fun y hy=>?_⟩;rcases jBv hy with hy | rfl
  .exact hq.2 y hy
  have hm:=hq.2 e (jAd he);refine ⟨hm.1,?_⟩;show (a.To.foldl onK e.To).length<=_;have:∀(l:List Int) (T:List zga),(l.foldl onK T).length=T.length:=by
   intro l;induction l with
   | nil=>intro T;rfl
   | cons k l ih=>intro T;rw[List.foldl_cons,ih,khb]
  rw[this];exact hm.2
 exact hq
theorem Wma(again:Bool)(id:Int):∀(l:List (Int × Int)) (s:List zla × List zga),(l.foldl (resS again id) s).1.length<=s.1.length+l.length
 | [],s=>by simp
 | kv::l,s=>by
  rw[List.foldl_cons];have:=Wma again id l (resS again id s kv);have h2:(resS again id s kv).1.length<=s.1.length+1:=by unfold resS;dsimp only;split <;> simp
  simp only[jCl];omega
theorem kkb(q:zva)(a:zwa)(rs:List Int)(now:Int)(hq:yta q)(hl:a.To.length<=1048576):yta (Q9a q a rs now).1/\(Q9a q a rs now).2.1.length<=1048576:=by
 unfold Q9a;split
 .exact ⟨kya,by simp⟩
 split
 .exact ⟨kya,by simp⟩
 rename_i h1 h2;obtain ⟨n,e,ha,he,_⟩:=Jka (q:=q) (a:=a) (on:=true) (by simpa using h2);split
 .exact ⟨kya,by simp⟩
 split
 .exact ⟨kya,by simp⟩
 split
 .exact ⟨kya,by simp⟩
 split
 .exact ⟨kya,by simp⟩
 rw[ha];simp only[jBe,he,jBr];unfold endP;have hm:=hq.2 e (jAd he);refine ⟨⟨?_,fun y hy=>?_⟩,?_⟩
 .have:=List.length_filter_le Q8a (q.Entries.set n (wTo (vKa e rs now) (resP e a rs now).2));rw[jCj]at this;exact jCi this hq.1
 .rcases jBv (jCx.1 hy).1 with hy | rfl
  .exact hq.2 y hy
  refine ⟨?_,?_⟩
  .show vza (vKa e rs now).Mail;rw[Yra];exact hm.1
  show (resP e a rs now).2.length<=_;rw[kQb];exact hm.2
 have h3:=Wma (Zxa e rs now) a.Entry (a.To.zip rs) ([],e.To);have h4:(a.To.zip rs).length<=a.To.length:=by rw[List.length_zip];omega
 show ((a.To.zip rs).foldl (resS (Zxa e rs now) a.Entry) ([],e.To)).1.length<=_;simp only[jCy]at h3;omega
def apdF(log:List UInt8)(r:zea):List UInt8 × zsa:=if 200000 < log.length then ([],⟨1, -1⟩) else if (rcdF r).Code !=0 then ([],rcdF r) else if 200000 < log.length+(spE r).length then ([],⟨1, -9⟩) else (log++spE r,⟨0,0⟩)
theorem wva(log:List UInt8)(r:zea)(h:kha r):qfa log r=some (apdF log r):=by
 unfold qfa apdF;by_cases hb:200000 < log.length
 .rw[decide_eq_true (show (200000:Int) < (log.length:Int) by omega),if_pos hb];rfl
 rw[decide_eq_false (show ¬(200000:Int) < (log.length:Int) by omega),if_neg hb];simp only[cond_false];rw[y0a r h];simp only[jAb,z7a];cases (rcdF r).Code !=0 with
 | true=>rfl
 | false=>
  simp only[cond_false,jAi,if_false];rw[yva r h];simp only[jAb];have hl:=Kpa h;have he:=jTa r;rw[wcb _ _ (by omega)];simp only[jAb];rw[jAf];by_cases h2:200000 < log.length+(spE r).length
  .rw[decide_eq_true (show (200000:Int) < ((log.length+(spE r).length:Nat):Int) by omega),if_pos h2];rfl
  rw[decide_eq_false (show ¬(200000:Int) < ((log.length+(spE r).length:Nat):Int) by omega),if_neg h2];rfl
def repS(r:zea)(s:zva × List zla):zsa × zva × List zla:=
 if r.Kind==1 then ((addP s.1 r.Mail r.Now).2.2,(addP s.1 r.Mail r.Now).1,s.2) else if (Zua s.1 r.Attempt).2.Code !=0 then ((Zua s.1 r.Attempt).2,(Zua s.1 r.Attempt).1,s.2) else
 ((Q9a (Zua s.1 r.Attempt).1 r.Attempt r.Results r.Now).2.2,(Q9a (Zua s.1 r.Attempt).1 r.Attempt r.Results r.Now).1,s.2++(Q9a (Zua s.1 r.Attempt).1 r.Attempt r.Results r.Now).2.1)
def repR:Nat->List zea->zva × List zla->(zva × List zla) ⊕ zsa
 | _,[],s=>.inl s
 | i,r::l,s=>if (repS r s).1.Code !=0 then .inr ⟨(repS r s).1.Code,i⟩ else repR (i+1) l (repS r s).2
theorem wob(i:Nat)(r:zea)(l:List zea)(s:zva × List zla):repR i (r::l) s=if (repS r s).1.Code !=0 then .inr ⟨(repS r s).1.Code,i⟩ else repR (i+1) l (repS r s).2:=rfl
def rcdQ(i:Nat)(r:zea):Option zsa:=if (rcdF r).Code !=0 then some ⟨(rcdF r).Code,i⟩ else none
def repF(l:List zea):zva × List zla × zsa:=if 100 < l.length then (⟨[],0⟩,[],⟨2, -1⟩) else match kCa rcdQ 0 l with
 | some f=>(⟨[],0⟩,[],f)
 | none=>match repR 0 l (⟨[],0⟩,[]) with
  | .inl s=>(s.1,s.2,⟨0,0⟩)
  | .inr f=>(⟨[],0⟩,[],f)
theorem K7a:∀(l:List Int) (T:List zga),Zsa T->Zsa (l.foldl onK T)
 | [],T,h=>h
 | k::l,T,h=>by
  refine K7a l _ ⟨by rw[khb];exact h.1,fun w hwm=>?_⟩;unfold onK at hwm;split at hwm
  .rename_i v hv;rcases jBv hwm with hwm | rfl
   .exact h.2 w hwm
   exact h.2 v (jAd hv)
  exact h.2 w hwm
theorem Kba(again:Bool)(id:Int):∀(l:List (Int × Int)) (s:List zla × List zga),Zsa s.2->Zsa (l.foldl (resS again id) s).2
 | [],s,h=>h
 | kv::l,s,h=>by
  refine Kba again id l _ ⟨?_,fun w hwm=>?_⟩
  .show (resK again s.2 kv).length<=_;rw[Voa];exact h.1
  have hwm:w∈resK again s.2 kv:=hwm;unfold resK at hwm;split at hwm
  .rename_i v hv;rcases jBv hwm with hwm | rfl
   .exact h.2 w hwm
   exact h.2 v (jAd hv)
  exact h.2 w hwm
theorem kma:w0a ⟨[],0⟩:=fun e he=>by cases he
theorem yQa(q:zva)(a:zwa)(hw:w0a q):w0a (Zua q a).1:=by
 unfold Zua;split
 .exact kma
 split
 .exact kma
 split
 .exact kma
 show w0a ⟨Yna _ _ _,_⟩;unfold Yna;split
 .rename_i e he;intro y hy;rcases jBv hy with hy | rfl
  .exact hw y hy
  exact K7a _ _ (hw e (jAd he))
 exact hw
theorem QYa(q:zva)(a:zwa)(rs:List Int)(now:Int)(hw:w0a q):w0a (Q9a q a rs now).1/\(Q9a q a rs now).2.1.length<=a.To.length:=by
 unfold Q9a;split
 .exact ⟨kma,by simp⟩
 split
 .exact ⟨kma,by simp⟩
 rename_i h1 h2;obtain ⟨n,e,ha,he,_⟩:=Jka (q:=q) (a:=a) (on:=true) (by simpa using h2);split
 .exact ⟨kma,by simp⟩
 split
 .exact ⟨kma,by simp⟩
 split
 .exact ⟨kma,by simp⟩
 split
 .exact ⟨kma,by simp⟩
 rw[ha];simp only[jBe,he,jBr];unfold endP;have hm:=hw e (jAd he);refine ⟨fun y hy=>?_,?_⟩
 .rcases jBv (jCx.1 hy).1 with hy | rfl
  .exact hw y hy
  exact Kba _ _ _ _ hm
 have h3:=Wma (Zxa e rs now) a.Entry (a.To.zip rs) ([],e.To);have h4:(a.To.zip rs).length<=a.To.length:=by rw[List.length_zip];omega
 show ((a.To.zip rs).foldl (resS (Zxa e rs now) a.Entry) ([],e.To)).1.length<=_;simp only[jCy]at h3;omega
theorem qIb(q:zva)(m:kia)(now:Int)(hq:yta q)(hw:w0a q)(hm:vza m):yta (addP q m now).1/\w0a (addP q m now).1:=by
 unfold addP;split
 .exact ⟨kya,kma⟩
 rename_i h0;split
 .exact ⟨kya,kma⟩
 split
 .exact ⟨kya,kma⟩
 split
 .exact ⟨kya,kma⟩
 obtain ⟨ok,_⟩:=Wda (q:=q) (by simpa using h0);have hn:=ok.n;obtain ⟨t1,t2⟩:=yua hm;refine ⟨⟨by simp;omega,fun e he=>?_⟩,fun e he=>?_⟩
 .rcases jCg.1 he with he | he
  .exact hq.2 e he
  rw[jCc.1 he];exact ⟨hm,by simpa[newE]using t1⟩
 rcases jCg.1 he with he | he
 .exact hw e he
 rw[jCc.1 he];refine ⟨by simpa[newE]using t1,fun w hwm=>?_⟩;obtain ⟨r,hr,rfl⟩:=jCb.1 hwm;exact t2 r hr
def InvR(n:Nat)(s:zva × List zla):Prop:=yta s.1/\w0a s.1/\s.2.length<=60 * n
theorem rcd_to{r:zea}(h:(rcdF r).Code=0):r.Attempt.To.length<=60:=by
 rcases rcd_nf h with ⟨_,ha,_⟩ | ⟨_,_,hd⟩
 .rw[ha];simp
 unfold wfb at hd;split at hd
 .simp at hd
 split at hd
 .simp at hd
 split at hd
 .simp at hd
 rename_i h3;simp at h3;omega
theorem repS_inv{n:Nat}{s:zva × List zla}{r:zea}(hi:InvR n s)(h:kha r)(hf:(rcdF r).Code=0):InvR (n+1) (repS r s).2:=by
 obtain ⟨h1,h2,h3⟩:=hi;have ht:=rcd_to hf;unfold repS;split
 .obtain ⟨a,b⟩:=qIb s.1 r.Mail r.Now h1 h2 h.mail;exact ⟨a,b,by show s.2.length<=_;omega⟩
 split
 .exact ⟨Kra _ _ h1,yQa _ _ h2,by show s.2.length<=_;omega⟩
 obtain ⟨d1,d2⟩:=kkb (Zua s.1 r.Attempt).1 r.Attempt r.Results r.Now (Kra _ _ h1) (by omega);obtain ⟨e1,e2⟩:=QYa (Zua s.1 r.Attempt).1 r.Attempt r.Results r.Now (yQa _ _ h2);exact ⟨d1,e1,by
  show (s.2++_).length<=_;rw[jAf];omega⟩
def repZ(x:(zva × List zla) ⊕ zsa):((List zla) × (List zca) × Int) ⊕ (zva × (List zla) × zsa):=match x with
 | .inl s=>.inl (s.2,s.1.Entries,s.1.Next)
 | .inr f=>.inr (⟨[],0⟩,[],f)
theorem wpb(l:List zea)(hl:l.length<=100)(hs:∀r∈l,kha r/\(rcdF r).Code=0):iter (qQa l) (0,([]:List zla),[],0)=some (repZ (repR 0 l (⟨[],0⟩,[]))):=by
 refine QAa l (fun n (s:zva × List zla)=>((n:Int),s.2,s.1.Entries,s.1.Next)) (fun n r s=>repZ (repR n r s)) (fun n r s=>InvR n s) (fun s _=>?_) (fun p x r s hp hi=>?_) (⟨[],0⟩,[]) rfl ⟨kya,kma,by simp⟩
 .unfold qQa;dsimp only;rw[z6a];rfl
 have hx:l[p.length]? =some x:=by rw[hp];simp
 have hlt:=z5a hx;obtain ⟨x1,x2⟩:=hs x (jAd hx);have hto:=rcd_to x2;obtain ⟨i1,i2,i3⟩:=hi;have hinv:=repS_inv (r:=x) (n:=p.length) ⟨i1,i2,i3⟩ x1 x2;have hb:qQa l ((p.length:Int),s.2,s.1.Entries,s.1.Next)=some (if (repS x s).1.Code !=0 then .out (.inr (⟨[],0⟩,[],⟨(repS x s).1.Code,p.length⟩)) else .cont (((p.length+1:Nat):Int),(repS x s).2.2,(repS x s).2.1.Entries,(repS x s).2.1.Next)):=by
  unfold qQa repS;dsimp only;rw[kua hx,zEa hx];simp only[cond_true,jAb];rw[show (zva.mk s.1.Entries s.1.Next)=s.1 from rfl];cases hk:x.Kind==1 with
  | true=>
   simp only[cond_true,if_true];rw[zhb _ _ _ i1 x1.mail];simp only[jAb,z7a,zMa,sc _ (show p.length < 9223372036854775807 by omega)];cases (addP s.1 x.Mail x.Now).2.2.Code !=0 <;> rfl
  | false=>
   simp only[cond_false,jAi,if_false];rw[Jla _ _ i1 i2 (by omega)];simp only[jAb,z7a,zMa];cases ht:(Zua s.1 x.Attempt).2.Code !=0 with
   | true=>simp only[jBh,cond_false,jAb,ht,cond_true,if_true]
   | false=>
    simp only[Bool.not_false,cond_true,jAi,if_false];rw[Jpa _ _ _ _ (Kra _ _ i1) (yQa _ _ i2) (by omega) x1.res];simp only[jAb];have hd:=(QYa (Zua s.1 x.Attempt).1 x.Attempt x.Results x.Now (yQa _ _ i2)).2;rw[vka (by omega)];simp only[jAb,sc _ (show p.length < 9223372036854775807 by omega)];cases (Q9a (Zua s.1 x.Attempt).1 x.Attempt x.Results x.Now).2.2.Code !=0 <;> rfl
 rw[hb,wob];cases hc:(repS x s).1.Code !=0 with
 | true=>exact .inl rfl
 | false=>exact .inr ⟨(repS x s).2,rfl,by simp,hinv⟩
theorem wqb(l:List zea)(hl:l.length<=100)(hs:∀r∈l,kha r):iter (vya l) 0=some ((kCa rcdQ 0 l).elim (Sum.inl ()) fun f=>Sum.inr ((⟨[],0⟩,[],f):zva × List zla × zsa)):=by
 refine kKa l rcdQ (Sum.inl ()) (fun f=>Sum.inr ((⟨[],0⟩,[],f):zva × List zla × zsa)) ?_ ?_
 .unfold vya;rw[z6a];rfl
 intro i x hx;have hi:=z5a hx;unfold vya;rw[kua hx,zEa hx];simp only[cond_true,jAb];rw[y0a _ (hs x (jAd hx))];simp only[jAb,z7a,zMa,sc i (by omega)];unfold rcdQ;cases (rcdF x).Code !=0 <;> rfl
theorem wrb{l:List zea}(h:kCa rcdQ 0 l=none):∀r∈l,(rcdF r).Code=0:=by
 intro r hr;rw[q2a]at h;obtain ⟨i,hi⟩:=List.mem_iff_getElem?.1 hr;have:=h i r hi;unfold rcdQ at this;split at this
 .cases this
 rename_i hc;simpa using hc
theorem Wna(l:List zea)(hs:∀r∈l,kha r):v6a l=some (repF l):=by
 unfold v6a repF;by_cases hl:100 < l.length
 .rw[decide_eq_true (show (100:Int) < (l.length:Int) by omega),if_pos hl];rfl
 rw[decide_eq_false (show ¬(100:Int) < (l.length:Int) by omega),if_neg hl];simp only[cond_false];rw[wqb l (by omega) hs];cases hf:kCa rcdQ 0 l with
 | some f=>rfl
 | none=>
  simp only[Option.elim_none,jAb,Sum.elim_inl];rw[wpb l (by omega) (fun r hr=>⟨hs r hr,wrb hf r hr⟩)];cases repR 0 l (⟨[],0⟩,[]) <;> rfl
def xM:kia:=⟨⟨[115,64,120],[⟨[97,64,121],1⟩],[55]⟩,⟨[],[]⟩⟩
def xAdd:zea:=⟨1,0,xM,⟨0,[],[]⟩,[]⟩
def xDone:zea:=⟨2,5,⟨⟨[],[],[]⟩,⟨[],[]⟩⟩,⟨0,[121],[0]⟩,[1]⟩
theorem xM_small:vza xM:=⟨⟨by decide,by decide,by decide,fun r hr=>by simp[xM]at hr;subst hr;decide⟩,⟨by decide,fun f hf=>by simp[xM]at hf⟩,by decide⟩
theorem QGa:kha xAdd:=⟨xM_small,by decide,by decide,by decide⟩
theorem klb:kha xDone:=⟨Wia,by decide,by decide,by decide⟩
theorem qJb:kha zRec:=⟨Wia,by decide,by decide,by decide⟩
theorem xAdd_ok:zob xAdd:=by
 refine ⟨?_,?_,?_,fun x hx=>?_,fun x hx=>by simp[xAdd]at hx,fun x hx=>by simp[xAdd]at hx⟩
 .show ok64 1;unfold ok64;omega
 .show ok64 0;unfold ok64;omega
 .show ok64 0;unfold ok64;omega
 simp[xAdd,xM]at hx;subst hx;show ok64 1;unfold ok64;omega
theorem kRb:rcdF xAdd=⟨0,0⟩:=by rfl
theorem Vpa:(spB xAdd).length=79:=by rfl
theorem x_app:apdF [] xAdd=(spE xAdd,⟨0,0⟩):=by
 have h:=jTa xAdd;rw[Vpa]at h;unfold apdF;rw[kRb,if_neg (by simp),if_neg (by simp),if_neg (by simp;omega)];rfl
theorem kSb:accP []=none:=rfl
theorem x_read:zqb (spE xAdd)=([xAdd],((spE xAdd).length:Int),⟨0,0⟩):=by
 have h:=jTa xAdd;rw[Vpa]at h;have h1:=kNb QGa xAdd_ok (by rw[kRb]) (by rw[Vpa];omega) [];rw[jCn]at h1;unfold zqb;rw[if_neg (by omega),show (100:Nat)=99+1 from rfl,K5a h1,List.drop_length,Zwa kSb];rfl
theorem x_rep:repF [xAdd,xDone]=(⟨[],1⟩,[⟨0,0,1⟩],⟨0,0⟩):=by rfl
theorem WGa:jka=some true:=by
 unfold jka;rw[wnb _ (by decide)];simp only[jAb];rw[show ([([97,64,121]:Str)]:List Str).map (fun s=>(⟨s,1⟩:zba))=[⟨[97,64,121],1⟩] from rfl];show ((qfa [] xAdd).bind fun v3=>(v5a v3.1).bind fun v5=>(v6a [xAdd,xDone]).bind fun v7=>(qfa [] zRec).bind fun v9=>_)=_;rw[wva _ _ QGa,x_app];simp only[jAb];have h:=jTa xAdd;rw[Vpa]at h;rw[jUa _ (by omega),x_read,Wna _ (fun r hr=>by
  simp at hr;rcases hr with rfl | rfl
  .exact QGa
  exact klb),x_rep,wva _ _ qJb]
 simp only[jAb,R_At_eq];rw[show apdF [] zRec=([],⟨4, -2⟩) from rfl,ZRa _ (by decide),decide_eq_true (show (16:Int) < ((spE xAdd).length:Int) by omega)];simp;rfl
theorem Woa{r:zea}(h:zea.bk r<=1048576):kha r:=by
 have h1:zea.bk r=1+1+kia.bk r.Mail+zwa.bk r.Attempt+bkL (fun _=>1) r.Results+1:=rfl;have h2:zwa.bk r.Attempt=1+(r.Attempt.Domain.length+1)+bkL (fun _=>1) r.Attempt.To+1:=rfl;have h3:=QCa (bk:=fun _:Int=>1) (fun x=>by simp) r.Attempt.To;have h4:=QCa (bk:=fun _:Int=>1) (fun x=>by simp) r.Results;exact ⟨qCb (by omega),by omega,by omega,by omega⟩
theorem kTb{r:zea}(h:zea.ok r):zob r:=by
 obtain ⟨h1,h2,h3,h4,h5⟩:=h;exact ⟨h1,h2,h4.1,fun x hx=>(h3.1.2.1.2 x hx).2,h4.2.2.2,h5.2⟩
structure Fine (r:zea):Prop where
 sm:kha r
 ok:zob r
 ff:(rcdF r).Code=0
theorem K8a(r:zea)(h:kha r):wsa r r=some true:=by
 unfold wsa;rw[Waa _ (yua h.mail).1 (jqa h.mail).1,Ysa _ h.to,Ysa _ h.res];simp
theorem ywa(l:List zea)(hl:l.length<=1048576)(h:∀r∈l,kha r):vfa l l=some true:=by
 unfold vfa;rw[show ((l.length:Int) !=(l.length:Int))=false by simp];simp only[cond_false];rw[kKa l (fun _ _=>(none:Option Bool)) (.inl ()) .inr,q2a.2 (fun _ _ _=>rfl)]
 .rfl
 .unfold vIa;rw[z6a];rfl
 intro i x hx;have hi:=z5a hx;unfold vIa;rw[kua hx,zEa hx];simp only[cond_true,jAb];rw[K8a x (h x (jAd hx))];simp only[jAb,jBh,cond_false,sc i (by omega)];rfl
def wrF:List UInt8->List zea->Option (List UInt8)
 | log,[]=>some log
 | log,r::l=>if (apdF log r).2.Code !=0 then none else wrF (apdF log r).1 l
theorem kUb(log:List UInt8)(r:zea)(l:List zea):wrF log (r::l)=if (apdF log r).2.Code !=0 then none else wrF (apdF log r).1 l:=rfl
theorem wsb{log:List UInt8}{r:zea}(h:(apdF log r).2.Code=0):(apdF log r).1=log++spE r/\(rcdF r).Code=0/\log.length+(spE r).length<=200000:=by
 unfold apdF at h ⊢;split at h
 .simp at h
 rename_i h1;rw[if_neg h1];split at h
 .rename_i h2;simp at h2;exact absurd h h2
 rename_i h2;rw[if_neg h2];split at h
 .simp at h
 rename_i h3;rw[if_neg h3];exact ⟨rfl,by simpa using h2,by omega⟩
theorem apdF_bad{log:List UInt8}{r:zea}(h:(apdF log r).2.Code≠0):(apdF log r).1=[]:=by
 unfold apdF at h ⊢;split
 .rfl
 rename_i h1;rw[if_neg h1]at h;split
 .rfl
 rename_i h2;rw[if_neg h2]at h;split
 .rfl
 rename_i h3;rw[if_neg h3]at h;exact absurd rfl h
theorem Jqa(l:List zea)(hl:l.length<=1048576)(h:∀r∈l,kha r):jla l=some (match wrF [] l with | some log=>(log,true) | none=>([],false)):=by
 unfold jla;have hloop:iter (vJa l) (([]:List UInt8),0)=some ((wrF [] l).elim (.inr ([],false)) .inl):=by
  refine KRa l (fun n (s:List UInt8)=>(s,(n:Int))) (fun n r s=>((wrF s r).elim (.inr ([],false)) .inl:List UInt8 ⊕ (List UInt8 × Bool))) (fun s=>?_) (fun p x r s hp=>?_) [] rfl
  .unfold vJa;dsimp only;rw[z6a];rfl
  have hx:l[p.length]? =some x:=by rw[hp];simp
  have hlt:=z5a hx;have hb:vJa l (s,(p.length:Int))=some (if (apdF s x).2.Code !=0 then .out (.inr ([],false)) else .cont ((apdF s x).1,((p.length+1:Nat):Int))):=by
   unfold vJa;dsimp only;rw[kua hx,zEa hx];simp only[cond_true,jAb];rw[wva _ _ (h x (jAd hx))];simp only[jAb,sc _ (show p.length < 9223372036854775807 by omega)];cases (apdF s x).2.Code !=0 <;> rfl
  rw[hb,kUb];cases (apdF s x).2.Code !=0 with
  | true=>exact .inl rfl
  | false=>exact .inr ⟨(apdF s x).1,rfl,rfl⟩
 rw[hloop];cases wrF [] l <;> rfl
theorem wrF_ok:∀(l:List zea) (log out:List UInt8),log.length<=200000->wrF log l=some out->out=log++l.flatMap spE/\(∀r∈l,(rcdF r).Code=0)/\out.length<=200000
 | [],log,out,hl,h=>by cases h;exact ⟨by simp,fun r hr=>(by cases hr),hl⟩
 | r::l,log,out,hl,h=>by
  rw[kUb]at h;split at h
  .cases h
  rename_i hc;obtain ⟨a1,a2,a3⟩:=wsb (log:=log) (r:=r) (by simpa using hc);rw[a1]at h;obtain ⟨b1,b2,b3⟩:=wrF_ok l _ out (by rw[jAf];omega) h;refine ⟨by rw[b1];simp,fun x hx=>?_,b3⟩;rcases jCd.1 hx with rfl | hx
  .exact a2
  exact b2 x hx
theorem qKb{r:zea}(h:kha r)(hl:(spE r).length<=1048576){c:Nat}(hc:c < (spE r).length):accP ((spE r).take c)=none:=by
 cases hx:accP ((spE r).take c) with
 | none=>rfl
 | some rn=>
  exfalso;obtain ⟨r',n⟩:=rn;have htl:((spE r).take c).length=c:=by rw[jBl];omega
  obtain ⟨q1,_,_,⟨rest,q4⟩,_⟩:=Wka (by omega) hx;have h2:spE r=spE r' ++(rest++(spE r).drop c):=by
   rw[<-jAp,<-q4,jDg]
  have h3:=h2;unfold spE at h3;rw[jAp]at h3;have l1:=Kpa h;have l2:=Kpa q1;obtain ⟨h4,_⟩:=kMb (by omega) (by omega) h3;have e1:=jTa r;have e2:=jTa r';rw[<-h4]at e2;have:=congrArg List.length q4;rw[jAf]at this;omega
theorem Jra:∀(l:List zea) (k c:Nat),(∀r∈l,Fine r)->l.length<=k->(l.flatMap spE).length<=1048576->c<=(l.flatMap spE).length->
 ∃j,j<=l.length/\rdsN k ((l.flatMap spE).take c)=(l.take j,((l.take j).flatMap spE).length)/\((l.take j).flatMap spE).length<=c/\∀r,l[j]? =some r->c < ((l.take j).flatMap spE).length+(spE r).length
 | [],k,c,_,_,_,hc=>⟨0,jBc _,by
  simp at hc;subst hc;rw[show (([]:List zea).flatMap spE).take 0=[] from rfl,Zwa kSb];simp,by simp,fun r hr=>by simp at hr⟩
 | r::l,k,c,hf,hk,hl,hc=>by
  have hr:=hf r (by simp);rw[jCe]at hl hc ⊢;rw[jAf]at hl hc;have he:=jTa r;by_cases hlt:c < (spE r).length
  .refine ⟨0,by simp,?_,by simp,fun x hx=>?_⟩
   .rw[List.take_append_of_le_length (by omega),Zwa (qKb hr.sm (by omega) hlt)];simp
   simp at hx;subst hx;simpa using hlt
  obtain ⟨k',rfl⟩:∃k',k=k' +1:=⟨k - 1,by simp at hk;omega⟩;obtain ⟨j,j1,j2,j3,j4⟩:=Jra l k' (c - (spE r).length) (fun x hx=>hf x (by simp[hx])) (by simpa using hk) (by omega) (by omega);have ht:(spE r++l.flatMap spE).take c=spE r++(l.flatMap spE).take (c - (spE r).length):=by
   rw[List.take_append,List.take_of_length_le (by omega)]
  refine ⟨j+1,by simp;omega,?_,?_,fun x hx=>?_⟩
  .rw[ht,K5a (kNb hr.sm hr.ok hr.ff (by omega) _),List.drop_left,j2];simp
  .rw[List.take_succ_cons,jCe,jAf];omega
  have:=j4 x (by simpa using hx);rw[List.take_succ_cons,jCe,jAf];omega
theorem wtb(l:List zea)(k:Nat)(hf:∀r∈l,Fine r)(hk:l.length<=k)(hl:(l.flatMap spE).length<=1048576):rdsN k (l.flatMap spE)=(l,(l.flatMap spE).length):=by
 obtain ⟨j,j1,j2,j3,j4⟩:=Jra l k _ hf hk hl (jBc _);rw[List.take_length]at j2;rw[j2];by_cases h:j=l.length
 .rw[h,List.take_length]
 exfalso;have hx:l[j]? =some (l[j]'(by omega)):=jAh (by omega);have h1:=j4 _ hx;have h2:l.take (j+1)=l.take j++ [l[j]'(by omega)]:=by rw[List.take_add_one,hx];rfl
 have h3:((l.take (j+1)).flatMap spE).length<=(l.flatMap spE).length:=by
  have h4:l.flatMap spE=(l.take (j+1)).flatMap spE++(l.drop (j+1)).flatMap spE:=by rw[<-jDl,jDg]
  rw[h4,jAf];omega
 rw[h2,jDl,jAf,jCe,List.flatMap_nil,jCn]at h3;omega
theorem qLb(a0:List zea)(v16:(List zea) × Int × zsa)(j:Nat)(hj:j<=a0.length)(hv:v16.1=a0.take j)(hs:∀r∈a0,kha r)(hl:(a0.flatMap spE).length<=1048576)(hn:a0.length<=1048576):iter (z2a a0 v16) (0,0)=some (((a0.take j).flatMap spE).length:Int):=by
 have hmono:∀k,((a0.take k).flatMap spE).length<=(a0.flatMap spE).length:=fun k=>by
  have h4:a0.flatMap spE=(a0.take k).flatMap spE++(a0.drop k).flatMap spE:=by rw[<-jDl,jDg]
  rw[h4,jAf];omega
 have hlen:v16.1.length=j:=by rw[hv,jBl];omega
 have key:∀(k i:Nat),i+k=j->iter (z2a a0 v16) ((((a0.take i).flatMap spE).length:Int),(i:Int))=some (((a0.take j).flatMap spE).length:Int):=by
  intro k;induction k with
  | zero=>
   intro i hi;obtain rfl:i=j:=by omega
   refine zSa ?_;unfold z2a;dsimp only;rw[hlen,decide_eq_false (show ¬(i:Int) < (i:Int) by omega)];rfl
  | succ k ih=>
   intro i hi;have hx:a0[i]? =some (a0[i]'(by omega)):=jAh (by omega);generalize a0[i]'(by omega)=x at hx;have h2:a0.take (i+1)=a0.take i++ [x]:=by rw[List.take_add_one,hx];rfl
   have h3:((a0.take (i+1)).flatMap spE).length=((a0.take i).flatMap spE).length+(spE x).length:=by
    rw[h2,jDl,jAf,jCe,List.flatMap_nil,jCn]
   have h4:=hmono (i+1);have hil:=z5a hx;have hb:z2a a0 v16 ((((a0.take i).flatMap spE).length:Int),(i:Int))=some (.cont ((((a0.take (i+1)).flatMap spE).length:Int),((i+1:Nat):Int))):=by
    unfold z2a;dsimp only;rw[hlen,decide_eq_true (show (i:Int) < (j:Int) by omega),zEa hx];simp only[cond_true,jAb];rw[jra _ (hs x (jAd hx))];simp only[jAb];rw[Yaa _ _ (by omega),<-h3,v1a (n:=(i:Int)+1) (by omega) (by omega)];rfl
   rw[z1a hb];exact ih (i+1) (by omega)
 exact key j 0 (by omega)
theorem yba(a0:List zea)(a1:Int)(a2:zea)(o0:(okL zea.ok) a0)(o1:ok64 a1)(o2:zea.ok a2)(hk:(bkL zea.bk) a0+(fun _=>1) a1+zea.bk a2<=1048576):qda a0 a1 a2=some true:=by
 dsimp only at hk;have hs:∀r∈a0,kha r:=fun r hr=>by
  have:=z0b (bk:=zea.bk) hr;exact Woa (by omega)
 have hs2:=Woa (r:=a2) (by omega);have ho2:=kTb o2;have hlen:=QCa (bk:=zea.bk) (fun x=>by unfold zea.bk;omega) a0;unfold qda;rw[Jqa a0 (by omega) hs,WGa];simp only[jAb,jBh,cond_false];cases hw:wrF [] a0 with
 | none=>rfl
 | some log=>
  obtain ⟨w1,w2,w3⟩:=wrF_ok a0 [] log (by simp) hw;rw[jCt]at w1;have hf:∀r∈a0,Fine r:=fun r hr=>⟨hs r hr,kTb (o0.2 r hr),w2 r hr⟩
  simp only[jBh,cond_false];by_cases h20:20 < a0.length
  .rw[decide_eq_true (show (20:Int) < (a0.length:Int) by omega)];rfl
  rw[decide_eq_false (show ¬(20:Int) < (a0.length:Int) by omega)];simp only[cond_false,R_In_eq,jAb];by_cases hin:0<=a1/\a1<=(log.length:Int)
  .rw[decide_eq_true hin.1,decide_eq_true hin.2];simp only[Bool.and_self,jBh,cond_false];obtain ⟨c,rfl⟩:∃c:Nat,a1=(c:Int):=⟨a1.toNat,by omega⟩;have hc:c<=log.length:=by omega
   rw[Z8a hc];simp only[jAb];have htl:(log.take c).length=c:=by rw[jBl];omega
   rw[jUa _ (by omega)];simp only[jAb];have hll:(a0.flatMap spE).length<=1048576:=by rw[<-w1];omega
   obtain ⟨j,j1,j2,j3,j4⟩:=Jra a0 100 c hf (by omega) hll (by rw[<-w1];exact hc);have hread:zqb (log.take c)=(a0.take j,(((a0.take j).flatMap spE).length:Int),⟨0,0⟩):=by
    unfold zqb;rw[if_neg (by omega),w1,j2]
   rw[hread];have hjl:(a0.take j).length=j:=by rw[jBl];omega
   have hcut:cut a0 0 ((a0.take j).length:Int)=some (a0.take j):=by
    rw[hjl];exact Z8a j1
   have hsj:∀r∈a0.take j,kha r:=fun r hr=>hs r (jCp hr)
   dsimp only;rw[hcut];simp only[bne_self_eq_false,cond_false,jAb];rw[decide_eq_false (show ¬(c:Int) < (((a0.take j).flatMap spE).length:Int) by omega),decide_eq_false (show ¬(a0.length:Int) < ((a0.take j).length:Int) by omega),ywa _ (by omega) hsj];simp only[cond_false,jAb,jBh];rw[qLb a0 _ j j1 rfl hs hll (by omega)];simp only[jAb,bne_self_eq_false,cond_false];have hj35:((bif decide (((a0.take j).length:Int) < (a0.length:Int)) then (idx a0 (((a0.take j).length:Int))).bind fun v38=>(qEa v38).bind fun v40=>some (decide ((w64 ((((a0.take j).flatMap spE).length:Int)+(v40.length:Int)))<=(c:Int))) else some false):Option Bool)=some false:=by
    rw[hjl];by_cases hjn:j < a0.length
    .rw[decide_eq_true (show (j:Int) < (a0.length:Int) by omega)];have hx:a0[j]? =some (a0[j]'hjn):=jAh hjn;generalize a0[j]'hjn=x at hx;have hxs:=hs x (jAd hx);have:=j4 x hx;have l1:=Kpa hxs;have l2:=jTa x;rw[zEa hx];simp only[cond_true,jAb];rw[jra _ hxs];simp only[jAb];rw[Yaa _ _ (by omega),decide_eq_false (by omega)]
    rw[decide_eq_false (show ¬(j:Int) < (a0.length:Int) by omega)];rfl
   rw[hj35];simp only[jAb,cond_false];have hpre:log.take ((a0.take j).flatMap spE).length=(a0.take j).flatMap spE:=by
    have h4:a0.flatMap spE=(a0.take j).flatMap spE++(a0.drop j).flatMap spE:=by rw[<-jDl,jDg]
    rw[w1,h4,List.take_left'];rfl
   rw[Z8a (show ((a0.take j).flatMap spE).length<=log.length by omega),hpre];simp only[jAb];rw[wva _ _ hs2];simp only[jAb];by_cases hap:(apdF ((a0.take j).flatMap spE) a2).2.Code=0
   .obtain ⟨p1,p2,p3⟩:=wsb hap;rw[hap,p1];simp only[bne_self_eq_false,cond_false];have hfl:(a0.take j).flatMap spE++spE a2=(a0.take j++ [a2]).flatMap spE:=by
     rw[jDl,jCe,List.flatMap_nil,jCn]
    have hlen2:((a0.take j++ [a2]).flatMap spE).length<=200000:=by rw[<-hfl,jAf];omega
    have hfine2:∀r∈a0.take j++ [a2],Fine r:=fun r hr=>by
     rcases jCg.1 hr with hr | hr
     .exact hf r (jCp hr)
     rw[jCc.1 hr];exact ⟨hs2,ho2,p2⟩
    rw[hfl,jUa _ (by omega)];have hr2:zqb ((a0.take j++ [a2]).flatMap spE)=(a0.take j++ [a2],(((a0.take j++ [a2]).flatMap spE).length:Int),⟨0,0⟩):=by
     unfold zqb;rw[if_neg (by omega),wtb _ 100 hfine2 (by simp;omega) (by omega)]
    rw[hr2];simp only[jAb];rw[vka (by simp;omega)];simp only[jAb,jCt,beq_self_eq_true,cond_true];rw[vka (by simp;omega)];simp only[jAb];rw[ywa _ (by simp;omega) (fun r hr=>(hfine2 r hr).sm)];rfl
   have e1:((apdF ((a0.take j).flatMap spE) a2).2.Code !=0)=true:=by simpa using hap
   rw[e1,apdF_bad hap];rfl
  have:(decide (0<=a1) && decide (a1<=(log.length:Int)))=false:=by
   rw[Bool.and_eq_false_iff,decide_eq_false_iff_not,decide_eq_false_iff_not];omega
  rw[this];rfl
theorem ztb(a0:List Str)(r:kia)(hr:KOa a0=some r):Run prog 28 [.l cS a0] (.agg (zN2 r)):=by
 unfold KOa at hr;refine rf (fn:=f28) ⟨func28,rfl,by kernel_rfl⟩ rfl (fun _=>rfl) fun g0 hg=>?_
 refine rn tk 10 rfl ?_;refine yma 1003 (o:=3) (j:=1) 78 2 rfl rfl rfl rfl (hO ?_);refine rn tk 1 rfl ?_;refine yma 2003 (o:=3) (j:=1) 78 2 rfl rfl rfl rfl (hO ?_);refine rn tk 9 rfl<|al1 hr (fun s1=>[(0,.l cS a0),(2,.ptr 2 0),(3,.ptr 3 0),(4,.i s1.1)]) (fun s1=>[(2003,.row 78 false 2 (List.map zba.pc s1.2)),(3,.cells [.s (([115,64,120]:Str)),.hs 2003 0,.s (([55]:Str)),.l zka.pc ([]),.l cU ([])]),(2,.cells [.s (([]:Str)),.l zba.pc ([]),.s (([]:Str)),.l zka.pc ([]),.l cU ([])])]) (.exit 0) (fun b2=>[(2,.ptr 2 0),(3,.ptr 3 0)]) (fun b2=>[(2003,.row 78 false 2 (List.map zba.pc b2)),(3,.cells [.s (([115,64,120]:Str)),.hs 2003 0,.s (([55]:Str)),.l zka.pc ([]),.l cU ([])]),(2,.cells [.s (([]:Str)),.l zba.pc ([]),.s (([]:Str)),.l zka.pc ([]),.l cU ([])])]) rfl rfl (fun s1 x3 hr=>?_) (fun b2 hr=>?_)
 .unfold yra at hr;refine rn tk 5 rfl<|wn tk rfl rfl rfl<|rn tk 3 rfl<|ac 10 hr rfl (fun c4 hr=>?_) (fun c4 hr=>?_)
  .refine rn tk 4 rfl ?_;obtain ⟨v5,h6,hr⟩:=zaa hr;refine dr 9 [(21,.l zba.pc (([(zba.mk v5 1)]:List zba))),(20,.agg [.s v5,.i 1]),(19,.s v5),(18,.ep [pS v5]),(17,.i s1.1),(16,.l cS a0),(15,.hs 2003 0),(14,.ptr 3 1),(13,.ptr 3 0)] mixed (by kernel_rfl) rfl rfl (pq tk rfl (.plain rfl) (pq tk rfl (.plain rfl) (pq tk rfl (.plain rfl) (pq tk rfl (.plain rfl) (pq tk rfl (.plain rfl) (.run (.plain rfl) (zpa (q3a (f:=cS) rfl rfl VXa kaa rfl h6)) (pq tk rfl (.plain rfl) (pq tk rfl (.plain rfl) (.run (.plain rfl) (vXa (F:=zba.pc) (l:=([(zba.mk v5 1)]:List zba)) zza zPa rfl (fun _=>rfl) rfl rfl) .nil))))))))) rfl ?_;obtain ⟨v7,h8,hr⟩:=zaa hr;refine wa tk h8 rfl rfl rfl rfl (fun _=>rfl) rfl rfl<|rn tk 11 rfl ?_;cases hr;exact atc rfl rfl
  refine rn tk 2 rfl ?_;cases hr;exact ato rfl rfl rfl rfl
 refine rn tk 8 rfl ?_;refine Via (o:=2) (j:=1) (F:=zba.pc) (l:=b2) rfl rfl rfl (hC ?_);refine rn tk 1 rfl ?_;cases hr;exact kr tk (.inr rfl) rfl rfl
theorem Ksa(a0:List zla)(a1:List zla)(r:Bool)(hr:vwa a0 a1=some r):Run prog 19 [.l zla.pc a0,.l zla.pc a1] (.bo r):=by
 unfold vwa at hr;refine rf (fn:=f19) ⟨func19,rfl,by kernel_rfl⟩ rfl (fun _=>rfl) fun g0 hg=>?_
 refine rn tk 9 rfl<|wn tk rfl rfl rfl<|rn tk 1 rfl<|wn tk rfl rfl rfl<|rn tk 3 rfl<|ac 10 hr rfl (fun c1 hr=>?_) (fun c1 hr=>?_)
 .refine rn tk 7 rfl ?_;cases hr;exact kr tk (.inr rfl) rfl rfl
 refine rn tk 9 rfl<|al2 hr (fun s2=>[(0,.l zla.pc a0),(1,.l zla.pc a1),(5,.i s2)]) (fun s2=>[]) (.exit 0) (fun b3=>[]) (fun b3=>[]) .ret (fun b4=>[(4,.bo b4)]) (fun b4=>[]) rfl rfl (fun s2 x6 hr=>?_) (fun b3 hr=>?_) (fun b4 hr=>?_)
 .unfold vja at hr;refine rn tk 5 rfl<|wn tk rfl rfl rfl<|rn tk 3 rfl<|ac 14 hr rfl (fun c7 hr=>?_) (fun c7 hr=>?_)
  .refine rn tk 5 rfl ?_;obtain ⟨v8,h9,hr⟩:=zaa hr;obtain ⟨v10,h11,hr⟩:=zaa hr;refine dr 8 [(24,.agg [.i v10.Entry,.i v10.Number,.i v10.Result]),(23,.ep [pI v10.Entry,pI v10.Number,pI v10.Result]),(22,.i s2),(21,.l zla.pc a1),(20,.agg [.i v8.Entry,.i v8.Number,.i v8.Result]),(19,.ep [pI v8.Entry,pI v8.Number,pI v8.Result]),(18,.i s2),(17,.l zla.pc a0)] mixed (by kernel_rfl) rfl rfl (pq tk rfl (.plain rfl) (pq tk rfl (.plain rfl) (.run (.plain rfl) (zpa (q3a (f:=zla.pc) rfl rfl vQa vMa rfl h9)) (pq tk rfl (.plain rfl) (pq tk rfl (.plain rfl) (pq tk rfl (.plain rfl) (.run (.plain rfl) (zpa (q3a (f:=zla.pc) rfl rfl vQa vMa rfl h11)) (pq tk rfl (.plain rfl) .nil)))))))) rfl<|wq (jza rfl rfl vMa VTa (.int rfl (by decide) zZa (.int rfl (by decide) zZa (.int rfl (by decide) zZa .nil)))) rfl rfl rfl<|rn tk 2 rfl<|ac 25 hr rfl (fun c12 hr=>?_) (fun c12 hr=>?_)
   .refine rn tk 8 rfl ?_;cases hr;exact ato rfl rfl rfl rfl
   refine rn tk 8 rfl ?_;cases hr;exact atc rfl rfl
  refine rn tk 2 rfl ?_;cases hr;exact ato rfl rfl rfl rfl
 .refine rn tk 8 rfl ?_;cases hr;exact kr tk (.inr rfl) rfl rfl
 refine rn tk 2 rfl ?_;cases hr;exact kr tk (.inr rfl) rfl rfl
theorem jVa(a0:Int)(a1:Int)(r:zsa)(hr:R_At a0 a1=some r):Run prog 10 [.i a0,.i a1] (.agg [.i r.Code,.i r.Index]):=by
 unfold R_At at hr;refine rf (fn:=f10) ⟨func10,rfl,by kernel_rfl⟩ rfl (fun _=>rfl) fun g0 hg=>?_
 refine rn tk 14 rfl ?_;cases hr;exact kr tk (.inr rfl) rfl rfl
theorem zQa(a0:zsa)(r:Bool)(hr:z0a a0=some r):Run prog 24 [.agg [.i a0.Code,.i a0.Index]] (.bo r):=by
 unfold z0a at hr;refine rf (fn:=f24) ⟨func24,rfl,by kernel_rfl⟩ rfl (fun _=>rfl) fun g0 hg=>?_
 refine rn tk 15 rfl ?_;cases hr;exact kr tk (.inr rfl) rfl rfl
theorem zia(a0:Int)(a1:Int)(r:zsa)(hr:zoa a0 a1=some r):Run prog 22 [.i a0,.i a1] (.agg [.i r.Code,.i r.Index]):=by
 unfold zoa at hr;refine rf (fn:=f22) ⟨func22,rfl,by kernel_rfl⟩ rfl (fun _=>rfl) fun g0 hg=>?_
 refine rn tk 14 rfl ?_;cases hr;exact kr tk (.inr rfl) rfl rfl
theorem zXa(r:zsa)(hr:kna=some r):Run prog 27 [] (.agg [.i r.Code,.i r.Index]):=by
 unfold kna at hr;refine rf (fn:=f27) ⟨func27,rfl,by kernel_rfl⟩ rfl (fun _=>rfl) fun g0 hg=>?_
 refine rn tk 12 rfl ?_;cases hr;exact kr tk (.inr rfl) rfl rfl
theorem yxa(a0:List (List UInt8))(r:List UInt8)(hr:kRa a0=some r):Run prog 25 [.l (cL cU) a0] (.l cU r):=by
 unfold kRa at hr;refine rf (fn:=f25) ⟨func25,rfl,by kernel_rfl⟩ rfl (fun _=>rfl) fun g0 hg=>?_
 refine rn tk 14 rfl<|wn tk rfl rfl rfl<|rn tk 4 rfl<|al1 hr (fun s1=>[(0,.l (cL cU) a0),(3,.i s1.1),(9,.l (cL cU) a0),(10,.i ((a0.length:Int))),(11,.i s1.2)]) (fun s1=>[]) (.exit 0) (fun b2=>[(0,.l (cL cU) a0),(3,.i b2)]) (fun b2=>[]) rfl rfl (fun s1 x3 hr=>?_) (fun b2 hr=>?_)
 .unfold ksa at hr;refine rn tk 6 rfl<|ac 12 hr rfl (fun c4 hr=>?_) (fun c4 hr=>?_)
  .refine rn tk 6 rfl ?_;obtain ⟨v5,h6,hr⟩:=zaa hr;refine wi tk h6 rfl rfl rfl rfl rfl<|rn tk 8 rfl<|wn tk rfl rfl rfl<|rn tk 10 rfl<|ac 20 hr rfl (fun c7 hr=>?_) (fun c7 hr=>?_)
   .refine rn tk 1 rfl ?_;cases hr
   refine rn tk 7 rfl ?_;cases hr;exact atc rfl rfl
  refine rn tk 2 rfl ?_;cases hr;exact ato rfl rfl rfl rfl
 refine rn tk 5 rfl<|il (fn:=f50) (args:=[.pv (.sl (some true) []),.i b2]) 100000 199999 [(0,.l (cL cU) a0)] rfl ⟨func50,rfl,by kernel_rfl⟩ rfl rfl rfl fun T1 ds1=>?_
 refine rn tk 12 rfl<|ac 6 hr rfl (fun c8 hr=>?_) (fun c8 hr=>?_)
 .refine rn tk 1 rfl ?_;cases hr
 refine rn tk 7 rfl<|wq (JIa rfl zna.u) rfl rfl rfl<|rn tk 1 rfl<|wq (JJa rfl zna.u) rfl rfl rfl<|rn tk 11 rfl<|ac 16 hr rfl (fun c9 hr=>?_) (fun c9 hr=>?_)
 .refine rn tk 3 rfl<|wq (JIa rfl zna.u) rfl rfl rfl<|wq (ev_slnil rfl rfl zna zFa) rfl rfl rfl<|rn tk 1 rfl ?_;obtain ⟨v10,h11,hr⟩:=zaa hr;refine wo (JKa (k:=22) (F:=cU) (z:=((0:UInt8):UInt8)) (lim:=140737488355328) 1022 rfl rfl rfl rfl rfl zna zZa zFa rfl rfl rfl h11) rfl<|rn tk 1 rfl<|wq (JJa rfl zna.u) rfl rfl rfl ?_;obtain ⟨v12,h13,hr⟩:=zaa hr;refine wo (k4b (k:=25) (F:=cU) (l:=v10) rfl rfl rfl rfl zna zFa h13) rfl<|rn tk 10 rfl ?_;refine ie tk [.hs 1022 0] [(0,.l (cL cU) a0)] [(1022,.row 5 true 1 (List.map cU v12))] (.inr rfl) rfl rfl rfl rfl (hO ?_);refine rn tk 7 rfl<|wn tk rfl rfl rfl<|rn tk 4 rfl<|al1 hr (fun s14=>[(6,.hs 1022 0),(25,.l (cL cU) a0),(26,.i ((a0.length:Int))),(27,.i s14.1)]) (fun s14=>[(1022,.row 5 true 1 (List.map cU s14.2))]) (.exit 2) (fun b15=>[(6,.hs 1022 0)]) (fun b15=>[(1022,.row 5 true 1 (List.map cU b15))]) rfl rfl (fun s14 x16 hr=>?_) (fun b15 hr=>?_)
  .unfold kta at hr;refine rn tk 6 rfl<|ac 28 hr rfl (fun c17 hr=>?_) (fun c17 hr=>?_)
   .refine rn tk 6 rfl ?_;obtain ⟨v18,h19,hr⟩:=zaa hr;refine wi tk h19 rfl rfl rfl rfl rfl<|rn tk 7 rfl ?_;obtain ⟨v20,h21,hr⟩:=zaa hr;refine wa tk h21 rfl rfl rfl rfl (fun _=>rfl) rfl rfl<|rn tk 8 rfl ?_;cases hr;exact atc rfl rfl
   refine rn tk 2 rfl ?_;cases hr;exact ato rfl rfl rfl rfl
  refine rn tk 8 rfl ?_;refine yHa 1022 rfl (hC ?_);refine vVa (d:=2) (F:=cU) (l:=b15) rfl rfl (hC ?_);refine rn tk 1 rfl ?_;cases hr;exact kr tk (.inr rfl) rfl rfl
 refine rn tk 5 rfl ?_;refine vba 1026 (d:=26) 5 1 rfl rfl rfl (hO ?_);refine rn tk 4 rfl ?_;refine ie tk [.hs 1026 0] [(0,.l (cL cU) a0)] [(1026,.row 5 false 1 (List.map cU (([]:List UInt8))))] (.inr rfl) rfl rfl rfl rfl (hO ?_);refine rn tk 7 rfl<|wn tk rfl rfl rfl<|rn tk 4 rfl<|al1 hr (fun s22=>[(6,.hs 1026 0),(25,.l (cL cU) a0),(26,.i ((a0.length:Int))),(27,.i s22.1)]) (fun s22=>[(1026,.row 5 false 1 (List.map cU s22.2))]) (.exit 2) (fun b23=>[(6,.hs 1026 0)]) (fun b23=>[(1026,.row 5 false 1 (List.map cU b23))]) rfl rfl (fun s22 x24 hr=>?_) (fun b23 hr=>?_)
 .unfold kVa at hr;refine rn tk 6 rfl<|ac 28 hr rfl (fun c25 hr=>?_) (fun c25 hr=>?_)
  .refine rn tk 6 rfl ?_;obtain ⟨v26,h27,hr⟩:=zaa hr;refine wi tk h27 rfl rfl rfl rfl rfl<|rn tk 7 rfl ?_;obtain ⟨v28,h29,hr⟩:=zaa hr;refine wa tk h29 rfl rfl rfl rfl (fun _=>rfl) rfl rfl<|rn tk 8 rfl ?_;cases hr;exact atc rfl rfl
  refine rn tk 2 rfl ?_;cases hr;exact ato rfl rfl rfl rfl
 refine rn tk 8 rfl ?_;refine vVa (d:=2) (F:=cU) (l:=b23) rfl rfl (hC ?_);refine rn tk 1 rfl ?_;cases hr;exact kr tk (.inr rfl) rfl rfl
theorem vga(a0:Int)(r:Bool)(hr:qMa a0=some r):Run prog 46 [.i a0] (.bo r):=by
 unfold qMa at hr;refine y4a (fn:=f46) ⟨func46,rfl,by kernel_rfl⟩ rfl (fun _=>rfl) fun g0 hg=>?_
 refine vma ?_;refine kTa ?_;refine zIa rfl (zKa (d:=2) rfl rfl qua) ?_;refine qoa<|kqa ?_;obtain ⟨j1,hx,hy⟩:=zaa hr;refine Vga (fun j1=>[(2,.bo j1)]) (fun j1=>[]) (fun z=>j1=z) ?_ ?_
 .have hr:=hx;clear hx hy;refine kTa ?_;refine zIa rfl (zKa (d:=3) rfl rfl kYa) ?_;refine zIa rfl (zKa (d:=4) rfl rfl (qPb rfl rfl)) ?_;refine zIa rfl (zKa (d:=5) rfl rfl kYa)<|qha (decide ((-68719476736)<=a0)) (fun c2=>?_) (fun c2=>?_)
  .replace hr:=yja c2 hr
   refine w7a (d:=5) rfl rfl rfl c2 (zKa (d:=6) rfl rfl kYa) ?_;refine w7a (d:=5) rfl rfl rfl c2 (zKa (d:=7) rfl rfl (ev_leq rfl rfl)) ?_;refine zIa rfl (zKa (d:=8) rfl rfl (zua rfl c2)) ?_;refine zIa rfl (zKa (d:=2) rfl rfl qua) ?_;refine qoa ?_;cases hr;exact yDa _ rfl (zfa rfl zYa) zja
  replace hr:=yka c2 hr
  refine yVa (d:=5) rfl rfl rfl c2 ?_;refine yVa (d:=5) rfl rfl rfl c2 ?_;refine zIa rfl (zKa (d:=8) rfl rfl (voa rfl c2)) ?_;refine zIa rfl (zKa (d:=2) rfl rfl qua) ?_;refine qoa ?_;cases hr;exact yDa _ rfl (zfa rfl zYa) zja
 rintro _ rfl;have hr:=hy;clear hx hy;refine Qba ?_;cases hr;exact qTb rfl (.cons (Qga rfl) .nil) rfl
theorem j3a(a0:UInt8)(r:Bool)(hr:v2a a0=some r):Run prog 141 [.u8 a0] (.bo r):=by
 unfold v2a at hr;refine rf (fn:=f141) ⟨func141,rfl,by kernel_rfl⟩ rfl (fun _=>rfl) fun g0 hg=>?_
 refine rn tk 5 rfl<|jb hr (fun j1=>[(2,.bo j1)]) (fun j1=>[]) (fun j1 hr=>?_) (fun j1 hr=>?_)
 .refine rn tk 4 rfl<|bs 5 hr rfl (fun c2 hr=>?_) (fun c2 hr=>?_)
  .refine rn tk 4 rfl<|bs 9 hr rfl (fun c3 hr=>?_) (fun c3 hr=>?_)
   .refine rn tk 17 rfl ?_;cases hr;exact jn _ rfl rfl rfl
   refine rn tk 3 rfl<|bs 12 hr rfl (fun c4 hr=>?_) (fun c4 hr=>?_)
   .refine rn tk 5 rfl<|bs 17 hr rfl (fun c5 hr=>?_) (fun c5 hr=>?_)
    .refine rn tk 9 rfl ?_;cases hr;exact jn _ rfl rfl rfl
    refine rn tk 3 rfl<|bs 20 hr rfl (fun c6 hr=>?_) (fun c6 hr=>?_)
    .refine rn tk 6 rfl ?_;cases hr;exact jn _ rfl rfl rfl
    refine rn tk 6 rfl ?_;cases hr;exact jn _ rfl rfl rfl
   refine rn tk 8 rfl<|bs 20 hr rfl (fun c7 hr=>?_) (fun c7 hr=>?_)
   .refine rn tk 6 rfl ?_;cases hr;exact jn _ rfl rfl rfl
   refine rn tk 6 rfl ?_;cases hr;exact jn _ rfl rfl rfl
  refine rn tk 7 rfl<|bs 12 hr rfl (fun c8 hr=>?_) (fun c8 hr=>?_)
  .refine rn tk 5 rfl<|bs 17 hr rfl (fun c9 hr=>?_) (fun c9 hr=>?_)
   .refine rn tk 9 rfl ?_;cases hr;exact jn _ rfl rfl rfl
   refine rn tk 3 rfl<|bs 20 hr rfl (fun c10 hr=>?_) (fun c10 hr=>?_)
   .refine rn tk 6 rfl ?_;cases hr;exact jn _ rfl rfl rfl
   refine rn tk 6 rfl ?_;cases hr;exact jn _ rfl rfl rfl
  refine rn tk 8 rfl<|bs 20 hr rfl (fun c11 hr=>?_) (fun c11 hr=>?_)
  .refine rn tk 6 rfl ?_;cases hr;exact jn _ rfl rfl rfl
  refine rn tk 6 rfl ?_;cases hr;exact jn _ rfl rfl rfl
 refine rn tk 1 rfl ?_;cases hr;exact kr tk (.inr rfl) rfl rfl
theorem WHa(a0:Str)(r:Bool)(hr:y8a a0=some r):Run prog 125 [.s a0] (.bo r):=by
 unfold y8a at hr;refine rf (fn:=f125) ⟨func125,rfl,by kernel_rfl⟩ rfl (fun _=>rfl) fun g0 hg=>?_
 refine rn tk 5 rfl<|jb hr (fun j1=>[(2,.bo j1)]) (fun j1=>[]) (fun j1 hr=>?_) (fun j1 hr=>?_)
 .refine rn tk 4 rfl<|bs 5 hr rfl (fun c2 hr=>?_) (fun c2 hr=>?_)
  .refine rn tk 5 rfl<|bs 10 hr rfl (fun c3 hr=>?_) (fun c3 hr=>?_)
   .refine rn tk 1 rfl<|ug rfl rfl rfl<|ct hr (fun j4=>[(10,.bo true),(12,.bo j4)]) (fun j4=>[]) (fun j4 hr jump4=>?_) (fun j4 hr=>?_)
    .refine il (fn:=f120) (args:=[.s a0,.fn (.func 140) [] []]) 400000 499999 [(10,.bo true)] rfl ⟨func120,rfl,by kernel_rfl⟩ rfl rfl rfl fun T4 ds4=>?_
     refine rn tk 14 rfl<|al2 hr (fun s5=>[(0,.s a0),(1,.fn (.func 140) [] []),(7,.i ((a0.length:Int))),(8,.i s5)]) (fun s5=>[(499999,.sus g0.w.heap.size ds4),(400010,.hold (.bo true) (T4.getD 10 undef))]) (.exit 0) (fun b6=>[]) (fun b6=>[(499999,.sus g0.w.heap.size ds4),(400010,.hold (.bo true) (T4.getD 10 undef))]) .ret (fun b7=>[(4,.bo false)]) (fun b7=>[(499999,.sus g0.w.heap.size ds4),(400010,.hold (.bo true) (T4.getD 10 undef))]) rfl rfl (fun s5 x9 hr=>?_) (fun b6 hr=>?_) (fun b7 hr=>?_)
     .unfold wea at hr;refine rn tk 6 rfl<|ac 9 hr rfl (fun c10 hr=>?_) (fun c10 hr=>?_)
      .refine rn tk 15 rfl ?_;obtain ⟨v11,h12,hr⟩:=zaa hr;refine ws tk h12 rfl rfl rfl rfl<|il (fn:=f140) (args:=[.u8 v11]) 600000 699999 [(0,.s a0),(1,.fn (.func 140) [] []),(7,.i ((a0.length:Int))),(8,.i s5)] rfl ⟨func140,rfl,by kernel_rfl⟩ rfl rfl rfl fun T6 ds6=>?_
       refine rn tk 5 rfl<|jb hr (fun j13=>[(2,.bo j13)]) (fun j13=>[(699999,.sus g0.w.heap.size ds6),(600000,.hold (.s a0) (T6.getD 0 undef)),(600001,.hold (.fn (.func 140) [] []) (T6.getD 1 undef)),(600007,.hold (.i ((a0.length:Int))) (T6.getD 7 undef)),(600008,.hold (.i s5) (T6.getD 8 undef)),(499999,.sus g0.w.heap.size ds4),(400010,.hold (.bo true) (T4.getD 10 undef))]) (fun j13 hr=>?_) (fun j13 hr=>?_)
       .refine rn tk 2 rfl ?_;obtain ⟨v14,h15,hr⟩:=zaa hr;refine cl (j3a _ _ h15) rfl rfl<|rn tk 1 rfl<|bs 5 hr rfl (fun c16 hr=>?_) (fun c16 hr=>?_)
        .refine rn tk 13 rfl ?_;cases hr;exact jn _ rfl rfl rfl
        refine rn tk 4 rfl<|bs 9 hr rfl (fun c17 hr=>?_) (fun c17 hr=>?_)
        .refine rn tk 9 rfl ?_;cases hr;exact jn _ rfl rfl rfl
        refine rn tk 4 rfl<|bs 13 hr rfl (fun c18 hr=>?_) (fun c18 hr=>?_)
        .refine rn tk 5 rfl ?_;cases hr;exact jn _ rfl rfl rfl
        refine rn tk 5 rfl ?_;cases hr;exact jn _ rfl rfl rfl
       refine rn tk 1 rfl ?_;refine ie tk [.bo j13] [(0,.s a0),(1,.fn (.func 140) [] []),(7,.i ((a0.length:Int))),(8,.i s5)] [(499999,.sus g0.w.heap.size ds4),(400010,.hold (.bo true) (T4.getD 10 undef))] (.inr rfl) rfl rfl rfl rfl (hO ?_);refine rn tk 3 rfl<|ac 16 hr rfl (fun c19 hr=>?_) (fun c19 hr=>?_)
       .refine rn tk 8 rfl ?_;cases hr;exact ato rfl rfl rfl rfl
       refine rn tk 7 rfl ?_;cases hr;exact atc rfl rfl
      refine rn tk 2 rfl ?_;cases hr;exact ato rfl rfl rfl rfl
     .refine rn tk 8 rfl ?_;refine ie tk [.bo true] [(10,.bo true)] [] (.inr rfl) rfl rfl rfl rfl ?_;cases hr;exact jump4 _ _ rfl rfl
     refine rn tk 2 rfl ?_;refine ie tk [.bo false] [(10,.bo true)] [] (.inr rfl) rfl rfl rfl rfl ?_;cases hr;exact jump4 _ _ rfl rfl
    refine rn tk 3 rfl ?_;cases hr;exact jn _ rfl rfl rfl
   refine rn tk 5 rfl ?_;cases hr;exact jn _ rfl rfl rfl
  refine rn tk 10 rfl ?_;cases hr;exact jn _ rfl rfl rfl
 refine rn tk 1 rfl ?_;cases hr;exact kr tk (.inr rfl) rfl rfl
end Go.Proofs.YtdblnmhmmfahkaaGreat
namespace Go.Proofs
open Go.Shelf
def Tryz.lays137_ren:Go.Shelf.Ren:=⟨fun | 137=>149 | 217=>156 | 266=>163 | n=>n,fun | 9=>9 | 5=>5 | 3=>3 | n=>n,fun | n=>n⟩
theorem Tryz.cqz{α:Type}{a:Option α}{x y:α}(h:a=some x)(e:x=y):a=some y:=h.trans (congrArg some e)
theorem Tryz.lays137:Go.Proofs.Lays.n137 prog Tryz.lays137_ren:=⟨by kernel_rfl,cqz func149 (by kernel_rfl),cqz func156 (by kernel_rfl),cqz func163 (by kernel_rfl),underlying3,isAgg3,sizeOf3,zeroValue3,underlying5,isAgg5,sizeOf5,zeroValue5,underlying9,isAgg9,sizeOf9,zeroValue9⟩
open Go.RowKit in
theorem Tryz.strings_IndexByte(s:ByteArray)(c:Int)(w:World):
 Calls prog 149 #[.string s,.int .u8 c] w fun e w' =>e=.returned (.int .i64 (Lib.indexByte s.data.toList c.toNat.toUInt8))/\w' =w:=Any.strings_IndexByte Tryz.lays137 s c w
def Tryz.lays144_ren:Go.Shelf.Ren:=⟨fun | 144=>123 | 143=>139 | 219=>150 | 217=>156 | 225=>157 | 224=>158 | 267=>159 | 266=>163 | 314=>164 | n=>n,fun | 9=>9 | 4=>4 | 3=>3 | 5=>5 | 46=>189 | 146=>201 | 51=>200 | n=>n,fun | 1=>0 | n=>n⟩
theorem Tryz.lays144:Go.Proofs.Lays.n144 prog Tryz.lays144_ren:=⟨by kernel_rfl,cqz func139 (by kernel_rfl),cqz func123 (by kernel_rfl),cqz func156 (by kernel_rfl),cqz func150 (by kernel_rfl),cqz func158 (by kernel_rfl),cqz func157 (by kernel_rfl),cqz func163 (by kernel_rfl),cqz func159 (by kernel_rfl),cqz func164 (by kernel_rfl),underlying3,isAgg3,sizeOf3,zeroValue3,underlying4,isAgg4,sizeOf4,zeroValue4,underlying5,isAgg5,sizeOf5,zeroValue5,underlying9,isAgg9,sizeOf9,zeroValue9,underlying189,isAgg189,sizeOf189,zeroValue189,underlying200,isAgg200,sizeOf200,zeroValue200,underlying201,isAgg201,sizeOf201,zeroValue201,by kernel_rfl⟩
open Go.RowKit Go.Lib in
theorem Tryz.strings_Contains(s sub:ByteArray)(m:Int)(w:World)(hs:s.size < 4294967281)(hm:w.cell? ⟨0,0,none⟩=some (.int .i64 m)):
 Calls prog 123 #[.string s,.string sub] w fun e w' =>e=.returned (.bool (Lib.contains s.data.toList sub.data.toList))/\w' =w:=Any.strings_Contains Tryz.lays144 s sub m w hs hm
def Tryz.lays145_ren:Go.Shelf.Ren:=⟨fun | 145=>147 | 220=>155 | 219=>150 | 217=>156 | 225=>157 | 224=>158 | 267=>159 | 266=>163 | 314=>164 | n=>n,fun | 9=>9 | 4=>4 | 59=>186 | 3=>3 | 5=>5 | 46=>189 | 146=>201 | 51=>200 | n=>n,fun | 1=>0 | n=>n⟩
theorem Tryz.lays145:Go.Proofs.Lays.n145 prog Tryz.lays145_ren:=⟨by kernel_rfl,cqz func147 (by kernel_rfl),cqz func156 (by kernel_rfl),cqz func150 (by kernel_rfl),cqz func155 (by kernel_rfl),cqz func158 (by kernel_rfl),cqz func157 (by kernel_rfl),cqz func163 (by kernel_rfl),cqz func159 (by kernel_rfl),cqz func164 (by kernel_rfl),underlying3,isAgg3,sizeOf3,zeroValue3,underlying4,isAgg4,sizeOf4,zeroValue4,underlying5,isAgg5,sizeOf5,zeroValue5,underlying9,isAgg9,sizeOf9,zeroValue9,underlying189,isAgg189,sizeOf189,zeroValue189,underlying200,isAgg200,sizeOf200,zeroValue200,underlying186,isAgg186,sizeOf186,zeroValue186,underlying201,isAgg201,sizeOf201,zeroValue201,by kernel_rfl⟩
open Go.RowKit Go.Lib in
theorem Tryz.strings_Cut(s sep:ByteArray)(m:Int)(w:World)(hs:s.size < 4294967281)(hm:w.cell? ⟨0,0,none⟩=some (.int .i64 m)):
 Calls prog 147 #[.string s,.string sep] w fun e w' =>e=.returned (.tuple #[.string ⟨(Lib.cut s.data.toList sep.data.toList).1.toArray⟩,.string ⟨(Lib.cut s.data.toList sep.data.toList).2.1.toArray⟩,.bool (Lib.cut s.data.toList sep.data.toList).2.2])/\∃n,w' =w.drewN n:=Any.strings_Cut Tryz.lays145 s sep m w hs hm
def Tryz.lays99_ren:Go.Shelf.Ren:=⟨fun | 99=>121 | 206=>137 | n=>n,fun | 9=>9 | 4=>4 | 3=>3 | n=>n,fun | n=>n⟩
theorem Tryz.lays99:Go.Proofs.Lays.n99 prog Tryz.lays99_ren:=⟨by kernel_rfl,cqz func121 (by kernel_rfl),cqz func137 (by kernel_rfl),underlying3,isAgg3,sizeOf3,zeroValue3,underlying4,isAgg4,sizeOf4,zeroValue4,underlying9,isAgg9,sizeOf9,zeroValue9⟩
open Go.RowKit Go.Lib in
theorem Tryz.strings_HasPrefix(s p:ByteArray)(w:World):
 Calls prog 121 #[.string s,.string p] w fun e w' =>e=.returned (.bool (Lib.hasPrefix s.data.toList p.data.toList))/\w' =w:=Any.strings_HasPrefix Tryz.lays99 s p w
def Tryz.lays100_ren:Go.Shelf.Ren:=⟨fun | 100=>122 | 207=>138 | n=>n,fun | 9=>9 | 4=>4 | 3=>3 | n=>n,fun | n=>n⟩
theorem Tryz.lays100:Go.Proofs.Lays.n100 prog Tryz.lays100_ren:=⟨by kernel_rfl,cqz func122 (by kernel_rfl),cqz func138 (by kernel_rfl),underlying3,isAgg3,sizeOf3,zeroValue3,underlying4,isAgg4,sizeOf4,zeroValue4,underlying9,isAgg9,sizeOf9,zeroValue9⟩
open Go.RowKit Go.Lib in
theorem Tryz.strings_HasSuffix(s p:ByteArray)(w:World)(hs:s.size<=9223372036854775807):
 Calls prog 122 #[.string s,.string p] w fun e w' =>e=.returned (.bool (Lib.hasSuffix s.data.toList p.data.toList))/\w' =w:=Any.strings_HasSuffix Tryz.lays100 s p w hs
def Tryz.lays226_ren:Go.Shelf.Ren:=⟨fun | 226=>168 | n=>n,fun | 3=>3 | 4=>4 | n=>n,fun | n=>n⟩
theorem Tryz.lays226:Go.Proofs.Lays.n226 prog Tryz.lays226_ren:=⟨by kernel_rfl,cqz func168 (by kernel_rfl),underlying3,isAgg3,sizeOf3,zeroValue3,underlying4,isAgg4,sizeOf4,zeroValue4⟩
open Go.RowKit Go.Lib in
theorem Tryz.strings_shouldUseASCIISet(n:Int)(w:World):
 Calls prog 168 #[.int .i64 n] w fun e w' =>e=.returned (.bool (decide (8 < n)))/\w' =w:=Any.strings_shouldUseASCIISet Tryz.lays226 n w
def Tryz.lays153_ren:Go.Shelf.Ren:=⟨fun | 153=>166 | 152=>167 | 226=>168 | 227=>169 | 228=>170 | 137=>149 | 119=>171 | 224=>158 | 225=>157 | 217=>156 | 266=>163 | n=>n,fun | 9=>9 | 3=>3 | 4=>4 | 5=>5 | 21=>21 | 117=>206 | 116=>205 | 0=>0 | 46=>189 | 124=>209 | n=>n,fun | n=>n⟩
theorem Tryz.lays153:Go.Proofs.Lays.n153 prog Tryz.lays153_ren:=⟨by kernel_rfl,cqz func171 (by kernel_rfl),cqz func149 (by kernel_rfl),cqz func167 (by kernel_rfl),cqz func166 (by kernel_rfl),cqz func156 (by kernel_rfl),cqz func158 (by kernel_rfl),cqz func157 (by kernel_rfl),cqz func168 (by kernel_rfl),cqz func169 (by kernel_rfl),cqz func170 (by kernel_rfl),cqz func163 (by kernel_rfl),underlying0,isAgg0,sizeOf0,zeroValue0,underlying3,isAgg3,sizeOf3,zeroValue3,underlying4,isAgg4,sizeOf4,zeroValue4,underlying5,isAgg5,sizeOf5,zeroValue5,underlying9,isAgg9,sizeOf9,zeroValue9,underlying21,isAgg21,sizeOf21,zeroValue21,underlying189,isAgg189,sizeOf189,zeroValue189,underlying205,isAgg205,sizeOf205,underlying206,isAgg206,sizeOf206,zeroValue206,underlying209,isAgg209,sizeOf209,zeroValue209⟩
open Go.RowKit Go.Lib in
theorem Tryz.strings_IndexAny_long(hv116:∀w,(zeroValue 205).run prog w=.ok (.agg (Array.replicate 256 (.bool false))) w)(s chars:ByteArray)(w:World)(h2:2<=chars.size)(h8:8 < s.size)(hs:s.size < 4294967281)(hcs:chars.size < 4294967281)(hascii:∀(j:Nat) b,chars.data.toList[j]? =some b->b.toNat < 128):
 Calls prog 166 #[.string s,.string chars] w fun e w' =>e=.returned (.int .i64 (Lib.indexAny s.data.toList chars.data.toList))/\w' =((w.alloc (.cells (Lib.setCells chars.data.toList) 205)).alloc (.cells (Lib.setCells chars.data.toList) 205)):=Any.strings_IndexAny_long Tryz.lays153 hv116 (by kernel_rfl) s chars w h2 h8 hs hcs hascii
open Go.RowKit Go.Lib in
theorem Tryz.strings_IndexAny(hv116:∀w,(zeroValue 205).run prog w=.ok (.agg (Array.replicate 256 (.bool false))) w)(s chars:ByteArray)(w:World)(hs:s.size < 4294967281)(hcs:chars.size < 4294967281)(has:∀(j:Nat) b,s.data.toList[j]? =some b->b.toNat < 128)(hac:∀(j:Nat) b,chars.data.toList[j]? =some b->b.toNat < 128):
 Calls prog 166 #[.string s,.string chars] w fun e w' =>e=.returned (.int .i64 (Lib.indexAny s.data.toList chars.data.toList))/\Below w.heap.size w w' :=Any.strings_IndexAny Tryz.lays153 hv116 (by kernel_rfl) s chars w hs hcs has hac
def Tryz.lays150_ren:Go.Shelf.Ren:=⟨fun | 150=>165 | 153=>166 | 152=>167 | 226=>168 | 227=>169 | 228=>170 | 137=>149 | 119=>171 | 224=>158 | 225=>157 | 217=>156 | 266=>163 | n=>n,fun | 9=>9 | 4=>4 | 3=>3 | 5=>5 | 21=>21 | 117=>206 | 116=>205 | 0=>0 | 46=>189 | 124=>209 | n=>n,fun | n=>n⟩
theorem Tryz.lays150:Go.Proofs.Lays.n150 prog Tryz.lays150_ren:=⟨by kernel_rfl,cqz func171 (by kernel_rfl),cqz func149 (by kernel_rfl),cqz func165 (by kernel_rfl),cqz func167 (by kernel_rfl),cqz func166 (by kernel_rfl),cqz func156 (by kernel_rfl),cqz func158 (by kernel_rfl),cqz func157 (by kernel_rfl),cqz func168 (by kernel_rfl),cqz func169 (by kernel_rfl),cqz func170 (by kernel_rfl),cqz func163 (by kernel_rfl),underlying0,isAgg0,sizeOf0,zeroValue0,underlying3,isAgg3,sizeOf3,zeroValue3,underlying4,isAgg4,sizeOf4,zeroValue4,underlying5,isAgg5,sizeOf5,zeroValue5,underlying9,isAgg9,sizeOf9,zeroValue9,underlying21,isAgg21,sizeOf21,zeroValue21,underlying189,isAgg189,sizeOf189,zeroValue189,underlying205,isAgg205,sizeOf205,underlying206,isAgg206,sizeOf206,zeroValue206,underlying209,isAgg209,sizeOf209,zeroValue209⟩
open Go.RowKit Go.Lib in
theorem Tryz.strings_ContainsAny(hv116:∀w,(zeroValue 205).run prog w=.ok (.agg (Array.replicate 256 (.bool false))) w)(s chars:ByteArray)(w:World)(hs:s.size < 4294967281)(hcs:chars.size < 4294967281)(has:∀(j:Nat) b,s.data.toList[j]? =some b->b.toNat < 128)(hac:∀(j:Nat) b,chars.data.toList[j]? =some b->b.toNat < 128):
 Calls prog 165 #[.string s,.string chars] w fun e w' =>e=.returned (.bool (Lib.containsAny s.data.toList chars.data.toList))/\Below w.heap.size w w' :=Any.strings_ContainsAny Tryz.lays150 hv116 (by kernel_rfl) s chars w hs hcs has hac
def Tryz.lays115_ren:Go.Shelf.Ren:=⟨fun | 115=>105 | n=>n,fun | 37=>22 | 4=>4 | 9=>9 | 5=>5 | n=>n,fun | n=>n⟩
theorem Tryz.lays115:Go.Proofs.Lays.n115 prog Tryz.lays115_ren:=⟨by kernel_rfl,cqz func105 (by kernel_rfl),underlying4,isAgg4,sizeOf4,zeroValue4,underlying9,isAgg9,sizeOf9,zeroValue9,underlying22,isAgg22,sizeOf22,zeroValue22⟩
def Tryz.laysnb116_ren:Go.Shelf.Ren:=⟨fun | 116=>61 | 115=>105 | n=>n,fun | 37=>22 | 4=>4 | 3=>3 | 9=>9 | 5=>5 | n=>n,fun | n=>n⟩
theorem Tryz.laysnb116:Go.Proofs.Lays.nb116 prog Tryz.laysnb116_ren:={mixed:=by kernel_rfl,f115:=cqz func105 (by kernel_rfl),f116:=cqz func61 (by kernel_rfl),t3:=underlying3,a3:=isAgg3,z3:=sizeOf3,v3:=zeroValue3,t4:=underlying4,a4:=isAgg4,z4:=sizeOf4,v4:=zeroValue4,t9:=underlying9,a9:=isAgg9,z9:=sizeOf9,v9:=zeroValue9,t37:=underlying22,a37:=isAgg22,z37:=sizeOf22,v37:=zeroValue22,t5:=underlying5,a5:=isAgg5,z5:=sizeOf5,v5:=zeroValue5}
theorem Tryz.bytes_Equal(v1 v2:Value)(xs ys:List Int)(w:World)(h1:(convert 22 9 v1).run prog w=.ok (.string (strOfNums xs)) w)(h2:(convert 22 9 v2).run prog w=.ok (.string (strOfNums ys)) w):
 Calls prog 105 #[v1,v2] w fun e w' =>e=.returned (.bool (Lib.bytesOf xs==Lib.bytesOf ys))/\w' =w:=Any.bytes_Equal Tryz.lays115 v1 v2 xs ys w h1 h2
theorem Tryz.bytes_HasPrefix(b1 o1 n c b2 o2 m d:Nat)(xs ys:List Int)(w:World)(hx:xs.length=n)(hy:ys.length=m)(hnc:n<=c)(hc1:∀i,i < n->w.cell? ⟨b1,o1+i,none⟩=some (.int .u8 (xs.getD i 0)))(hc2:∀i,i < m->w.cell? ⟨b2,o2+i,none⟩=some (.int .u8 (ys.getD i 0))):
 Calls prog 61 #[.slice (some ⟨b1,o1,none⟩) n c,.slice (some ⟨b2,o2,none⟩) m d] w fun e w' =>e=.returned (.bool (Lib.hasPrefix (Lib.bytesOf xs) (Lib.bytesOf ys)))/\w' =w:=Any.bytes_HasPrefix Tryz.laysnb116 b1 o1 n c b2 o2 m d xs ys w hx hy hnc hc1 hc2
end Go.Proofs
namespace Go.Proofs.YtdblnmhmmfahkaaGreat
open Go.RowKit Go.Proofs.Tryz
theorem wub(g:G)(q:Nat):Old (fun _=>False) g ⟨g.w.drewN q,g.u,g.loc⟩:=
 ⟨rfl,rfl,rfl,⟨jBc _,fun _ _=>jBc _,fun _ _ _ _=>rfl,fun _ h=>h⟩,fun _ _ _=>⟨rfl,rfl⟩⟩
theorem Kta{g:G}{s:Str}{v:Value}(h:Rel g (.s s) v):v=.string (strB s):=koa h
theorem Wpa(s t:Str)(r:Str × Str × Bool)(hr:vYa s t=some r):Run prog 147 [.s s,.s t] (.tup [.s r.1,.s r.2.1,.bo r.2.2]):=by
 unfold vYa at hr;split at hr
 case isFalse=>cases hr
 rename_i hlen;cases hr;refine ⟨⟨_,_,⟨func147,rfl,by kernel_rfl⟩⟩,fun g vs hw hg ha=>?_⟩;obtain ⟨hsz,hrel⟩:=ha;obtain ⟨l⟩:=vs
 match l,hsz with
 | [x,y],_=>
  obtain rfl:=Kta (hrel 0 _ rfl);obtain rfl:=Kta (hrel 1 _ rfl);obtain ⟨_,_,m,hm⟩:=hg.1 (0,0) (by simp[globs]);refine callsIn_wide.2 ((Tryz.strings_Cut (strB s) (strB t) m g.w (by rw[kBa];exact hlen) hm).mono ?_);rintro e w' ⟨rfl,q,rfl⟩;refine ⟨⟨g.w.drewN q,g.u,g.loc⟩,_,rfl,rfl,wub g q,hw,rfl,.tup rfl fun i c hi=>?_⟩
  match i,hi with
  | 0,rfl=>exact .pv (.b rfl)
  | 1,rfl=>exact .pv (.b rfl)
  | 2,rfl=>exact .pv (.b rfl)
theorem vBa(s:Str)(c:UInt8)(r:Int)(hr:kja s c=some r):Run prog 149 [.s s,.u8 c] (.i r):=by
 unfold kja at hr;cases hr;refine ⟨⟨_,_,⟨func149,rfl,by kernel_rfl⟩⟩,fun g vs hw hg ha=>?_⟩;obtain ⟨hsz,hrel⟩:=ha;obtain ⟨l⟩:=vs
 match l,hsz with
 | [x,y],_=>
  obtain rfl:=Kta (hrel 0 _ rfl);have e2:y=.int .u8 (c.toNat:Int):=koa (hrel 1 _ rfl);subst e2;refine callsIn_wide.2 ((Tryz.strings_IndexByte (strB s) (c.toNat:Int) g.w).mono ?_);rintro e w' ⟨rfl,rfl⟩;refine ⟨g,_,rfl,rfl,Old.refl _ g,hw,rfl,?_⟩;simp[strB];exact .pv (.b rfl)
theorem ZSa(s t:Str)(r:Bool)(hr:k8a s t=some r):Run prog 123 [.s s,.s t] (.bo r):=by
 unfold k8a at hr;split at hr
 case isFalse=>cases hr
 rename_i hlen;cases hr;refine ⟨⟨_,_,⟨func123,rfl,by kernel_rfl⟩⟩,fun g vs hw hg ha=>?_⟩;obtain ⟨hsz,hrel⟩:=ha;obtain ⟨l⟩:=vs
 match l,hsz with
 | [x,y],_=>
  obtain rfl:=Kta (hrel 0 _ rfl);obtain rfl:=Kta (hrel 1 _ rfl);obtain ⟨_,_,m,hm⟩:=hg.1 (0,0) (by simp[globs]);refine callsIn_wide.2 ((Tryz.strings_Contains (strB s) (strB t) m g.w (by rw[kBa];exact hlen) hm).mono ?_);rintro e w' ⟨rfl,rfl⟩;exact ⟨g,_,rfl,rfl,Old.refl _ g,hw,rfl,.pv (.b rfl)⟩
theorem v8a(a0:Str)(a1:Str)(r:Bool)(hr:kwa a0 a1=some r):Run prog 137 [.s a0,.s a1] (.bo r):=by
 unfold kwa at hr;refine rf (fn:=Tryz.f137) ⟨func137,rfl,by kernel_rfl⟩ rfl (fun _=>rfl) fun g0 hg=>?_
 refine rn tk 5 rfl<|jb hr (fun j1=>[(4,.bo j1)]) (fun j1=>[]) (fun j1 hr=>?_) (fun j1 hr=>?_)
 .refine rn tk 7 rfl<|bs 10 hr rfl (fun c2 hr=>?_) (fun c2 hr=>?_)
  .refine rn tk 3 rfl ?_;obtain ⟨v3,h4,hr⟩:=zaa hr;refine ug rfl rfl rfl<|wscH tk h4 rfl rfl rfl rfl<|rn tk 5 rfl ?_;cases hr;exact jn _ rfl rfl rfl
  refine rn tk 9 rfl ?_;cases hr;exact jn _ rfl rfl rfl
 refine rn tk 1 rfl ?_;cases hr;exact kr tk (.inr rfl) rfl rfl
theorem Zya(a0:Str)(a1:Str)(r:Bool)(hr:k0a a0 a1=some r):Run prog 121 [.s a0,.s a1] (.bo r):=by
 unfold k0a at hr;refine rf (fn:=f121) ⟨func121,rfl,by kernel_rfl⟩ rfl (fun _=>rfl) fun g0 hg=>?_
 refine rn tk 9 rfl ?_;obtain ⟨v1,h2,hr⟩:=zaa hr;refine cl (v8a _ _ _ h2) rfl rfl<|rn tk 4 rfl ?_;cases hr;exact kr tk (.inr rfl) rfl rfl
theorem v9a(a0:Str)(a1:Str)(r:Bool)(hr:kxa a0 a1=some r):Run prog 138 [.s a0,.s a1] (.bo r):=by
 unfold kxa at hr;refine rf (fn:=f138) ⟨func138,rfl,by kernel_rfl⟩ rfl (fun _=>rfl) fun g0 hg=>?_
 refine rn tk 5 rfl<|jb hr (fun j1=>[(4,.bo j1)]) (fun j1=>[]) (fun j1 hr=>?_) (fun j1 hr=>?_)
 .refine rn tk 7 rfl<|bs 10 hr rfl (fun c2 hr=>?_) (fun c2 hr=>?_)
  .refine rn tk 6 rfl ?_;obtain ⟨v3,h4,hr⟩:=zaa hr;refine ug rfl rfl rfl<|wscL tk h4 rfl rfl rfl rfl<|rn tk 5 rfl ?_;cases hr;exact jn _ rfl rfl rfl
  refine rn tk 12 rfl ?_;cases hr;exact jn _ rfl rfl rfl
 refine rn tk 1 rfl ?_;cases hr;exact kr tk (.inr rfl) rfl rfl
theorem Zza(a0:Str)(a1:Str)(r:Bool)(hr:k1a a0 a1=some r):Run prog 122 [.s a0,.s a1] (.bo r):=by
 unfold k1a at hr;refine rf (fn:=f122) ⟨func122,rfl,by kernel_rfl⟩ rfl (fun _=>rfl) fun g0 hg=>?_
 refine rn tk 9 rfl ?_;obtain ⟨v1,h2,hr⟩:=zaa hr;refine cl (v9a _ _ _ h2) rfl rfl<|rn tk 4 rfl ?_;cases hr;exact kr tk (.inr rfl) rfl rfl
theorem yya(a0:Str)(r:Bool)(hr:qNa a0=some r):Run prog 86 [.s a0] (.bo r):=by
 unfold qNa at hr;refine rf (fn:=f86) ⟨func86,rfl,by kernel_rfl⟩ rfl (fun _=>rfl) fun g0 hg=>?_
 refine rn tk 10 rfl<|jb hr (fun j1=>[(2,.bo j1)]) (fun j1=>[]) (fun j1 hr=>?_) (fun j1 hr=>?_)
 .refine rn tk 4 rfl<|bs 6 hr rfl (fun c2 hr=>?_) (fun c2 hr=>?_)
  .refine rn tk 5 rfl<|bs 11 hr rfl (fun c3 hr=>?_) (fun c3 hr=>?_)
   .refine rn tk 2 rfl<|ug rfl rfl rfl<|ct hr (fun j4=>[(0,.s a0),(11,.bo true),(14,.bo j4)]) (fun j4=>[]) (fun j4 hr jump4=>?_) (fun j4 hr=>?_)
    .refine il (fn:=f120) (args:=[.s a0,.fn (.func 119) [] []]) 400000 499999 [(0,.s a0),(11,.bo true)] rfl ⟨func120,rfl,by kernel_rfl⟩ rfl rfl rfl fun T4 ds4=>?_
     refine rn tk 14 rfl<|al2 hr (fun s5=>[(0,.s a0),(1,.fn (.func 119) [] []),(7,.i ((a0.length:Int))),(8,.i s5)]) (fun s5=>[(499999,.sus g0.w.heap.size ds4),(400000,.hold (.s a0) (T4.getD 0 undef)),(400011,.hold (.bo true) (T4.getD 11 undef))]) (.exit 0) (fun b6=>[]) (fun b6=>[(499999,.sus g0.w.heap.size ds4),(400000,.hold (.s a0) (T4.getD 0 undef)),(400011,.hold (.bo true) (T4.getD 11 undef))]) .ret (fun b7=>[(4,.bo false)]) (fun b7=>[(499999,.sus g0.w.heap.size ds4),(400000,.hold (.s a0) (T4.getD 0 undef)),(400011,.hold (.bo true) (T4.getD 11 undef))]) rfl rfl (fun s5 x9 hr=>?_) (fun b6 hr=>?_) (fun b7 hr=>?_)
     .unfold qxa at hr;refine rn tk 6 rfl<|ac 9 hr rfl (fun c10 hr=>?_) (fun c10 hr=>?_)
      .refine rn tk 15 rfl ?_;obtain ⟨v11,h12,hr⟩:=zaa hr;refine ws tk h12 rfl rfl rfl rfl<|il (fn:=Tryz.f119) (args:=[.u8 v11]) 600000 699999 [(0,.s a0),(1,.fn (.func 119) [] []),(7,.i ((a0.length:Int))),(8,.i s5)] rfl ⟨func119,rfl,by kernel_rfl⟩ rfl rfl rfl fun T6 ds6=>?_
       refine rn tk 5 rfl<|jb hr (fun j13=>[(2,.bo j13)]) (fun j13=>[(699999,.sus g0.w.heap.size ds6),(600000,.hold (.s a0) (T6.getD 0 undef)),(600001,.hold (.fn (.func 119) [] []) (T6.getD 1 undef)),(600007,.hold (.i ((a0.length:Int))) (T6.getD 7 undef)),(600008,.hold (.i s5) (T6.getD 8 undef)),(499999,.sus g0.w.heap.size ds4),(400000,.hold (.s a0) (T4.getD 0 undef)),(400011,.hold (.bo true) (T4.getD 11 undef))]) (fun j13 hr=>?_) (fun j13 hr=>?_)
       .refine rn tk 4 rfl<|bs 5 hr rfl (fun c14 hr=>?_) (fun c14 hr=>?_)
        .refine rn tk 4 rfl<|bs 9 hr rfl (fun c15 hr=>?_) (fun c15 hr=>?_)
         .refine rn tk 17 rfl ?_;cases hr;exact jn _ rfl rfl rfl
         refine rn tk 3 rfl<|bs 12 hr rfl (fun c16 hr=>?_) (fun c16 hr=>?_)
         .refine rn tk 5 rfl<|bs 17 hr rfl (fun c17 hr=>?_) (fun c17 hr=>?_)
          .refine rn tk 9 rfl ?_;cases hr;exact jn _ rfl rfl rfl
          refine rn tk 4 rfl<|bs 21 hr rfl (fun c18 hr=>?_) (fun c18 hr=>?_)
          .refine rn tk 5 rfl ?_;cases hr;exact jn _ rfl rfl rfl
          refine rn tk 5 rfl ?_;cases hr;exact jn _ rfl rfl rfl
         refine rn tk 9 rfl<|bs 21 hr rfl (fun c19 hr=>?_) (fun c19 hr=>?_)
         .refine rn tk 5 rfl ?_;cases hr;exact jn _ rfl rfl rfl
         refine rn tk 5 rfl ?_;cases hr;exact jn _ rfl rfl rfl
        refine rn tk 7 rfl<|bs 12 hr rfl (fun c20 hr=>?_) (fun c20 hr=>?_)
        .refine rn tk 5 rfl<|bs 17 hr rfl (fun c21 hr=>?_) (fun c21 hr=>?_)
         .refine rn tk 9 rfl ?_;cases hr;exact jn _ rfl rfl rfl
         refine rn tk 4 rfl<|bs 21 hr rfl (fun c22 hr=>?_) (fun c22 hr=>?_)
         .refine rn tk 5 rfl ?_;cases hr;exact jn _ rfl rfl rfl
         refine rn tk 5 rfl ?_;cases hr;exact jn _ rfl rfl rfl
        refine rn tk 9 rfl<|bs 21 hr rfl (fun c23 hr=>?_) (fun c23 hr=>?_)
        .refine rn tk 5 rfl ?_;cases hr;exact jn _ rfl rfl rfl
        refine rn tk 5 rfl ?_;cases hr;exact jn _ rfl rfl rfl
       refine rn tk 1 rfl ?_;refine ie tk [.bo j13] [(0,.s a0),(1,.fn (.func 119) [] []),(7,.i ((a0.length:Int))),(8,.i s5)] [(499999,.sus g0.w.heap.size ds4),(400000,.hold (.s a0) (T4.getD 0 undef)),(400011,.hold (.bo true) (T4.getD 11 undef))] (.inr rfl) rfl rfl rfl rfl (hO ?_);refine rn tk 3 rfl<|ac 16 hr rfl (fun c24 hr=>?_) (fun c24 hr=>?_)
       .refine rn tk 8 rfl ?_;cases hr;exact ato rfl rfl rfl rfl
       refine rn tk 7 rfl ?_;cases hr;exact atc rfl rfl
      refine rn tk 2 rfl ?_;cases hr;exact ato rfl rfl rfl rfl
     .refine rn tk 8 rfl ?_;refine ie tk [.bo true] [(0,.s a0),(11,.bo true)] [] (.inr rfl) rfl rfl rfl rfl ?_;cases hr;exact jump4 _ _ rfl rfl
     refine rn tk 2 rfl ?_;refine ie tk [.bo false] [(0,.s a0),(11,.bo true)] [] (.inr rfl) rfl rfl rfl rfl ?_;cases hr;exact jump4 _ _ rfl rfl
    refine rn tk 2 rfl<|bs 16 hr rfl (fun c25 hr=>?_) (fun c25 hr=>?_)
    .refine rn tk 1 rfl ?_;obtain ⟨v26,h27,hr⟩:=zaa hr;refine ug rfl rfl rfl<|cl (Zya _ _ _ h27) rfl rfl<|rn tk 3 rfl<|bs 21 hr rfl (fun c28 hr=>?_) (fun c28 hr=>?_)
     .refine rn tk 1 rfl ?_;obtain ⟨v29,h30,hr⟩:=zaa hr;refine ug rfl rfl rfl<|cl (Zza _ _ _ h30) rfl rfl<|rn tk 3 rfl<|bs 26 hr rfl (fun c31 hr=>?_) (fun c31 hr=>?_)
      .refine rn tk 1 rfl ?_;obtain ⟨v32,h33,hr⟩:=zaa hr;refine ug rfl rfl rfl<|cl (ZSa _ _ _ h33) rfl rfl<|rn tk 4 rfl ?_;cases hr;exact jn _ rfl rfl rfl
      refine rn tk 6 rfl ?_;cases hr;exact jn _ rfl rfl rfl
     refine rn tk 11 rfl ?_;cases hr;exact jn _ rfl rfl rfl
    refine rn tk 16 rfl ?_;cases hr;exact jn _ rfl rfl rfl
   refine rn tk 21 rfl ?_;cases hr;exact jn _ rfl rfl rfl
  refine rn tk 26 rfl ?_;cases hr;exact jn _ rfl rfl rfl
 refine rn tk 1 rfl ?_;cases hr;exact kr tk (.inr rfl) rfl rfl
theorem yRa(a0:Str)(r:Str × Str × Bool)(hr:vca a0=some r):Run prog 134 [.s a0] (.tup [.s r.1,.s r.2.1,.bo r.2.2]):=by
 unfold vca at hr;refine rf (fn:=f134) ⟨func134,rfl,by kernel_rfl⟩ rfl (fun _=>rfl) fun g0 hg=>?_
 refine rn tk 10 rfl ?_;obtain ⟨v1,h2,hr⟩:=zaa hr;refine cl (Wpa _ _ _ h2) rfl rfl<|rn tk 14 rfl<|jb hr (fun j3=>[(2,.s v1.1),(3,.s v1.2.1),(4,.bo j3)]) (fun j3=>[]) (fun j3 hr=>?_) (fun j3 hr=>?_)
 .refine rn tk 5 rfl<|bs 15 hr rfl (fun c4 hr=>?_) (fun c4 hr=>?_)
  .refine rn tk 4 rfl<|bs 19 hr rfl (fun c5 hr=>?_) (fun c5 hr=>?_)
   .refine rn tk 5 rfl<|bs 24 hr rfl (fun c6 hr=>?_) (fun c6 hr=>?_)
    .refine rn tk 2 rfl<|ug rfl rfl rfl<|ct hr (fun j7=>[(3,.s v1.2.1),(12,.s v1.1),(13,.s v1.2.1),(24,.bo true),(27,.bo j7)]) (fun j7=>[]) (fun j7 hr jump4=>?_) (fun j7 hr=>?_)
     .refine il (fn:=f120) (args:=[.s v1.1,.fn (.func 148) [] []]) 400000 499999 [(3,.s v1.2.1),(12,.s v1.1),(13,.s v1.2.1),(24,.bo true)] rfl ⟨func120,rfl,by kernel_rfl⟩ rfl rfl rfl fun T4 ds4=>?_
      refine rn tk 14 rfl<|al2 hr (fun s8=>[(0,.s v1.1),(1,.fn (.func 148) [] []),(7,.i ((v1.1.length:Int))),(8,.i s8)]) (fun s8=>[(499999,.sus g0.w.heap.size ds4),(400003,.hold (.s v1.2.1) (T4.getD 3 undef)),(400012,.hold (.s v1.1) (T4.getD 12 undef)),(400013,.hold (.s v1.2.1) (T4.getD 13 undef)),(400024,.hold (.bo true) (T4.getD 24 undef))]) (.exit 0) (fun b9=>[]) (fun b9=>[(499999,.sus g0.w.heap.size ds4),(400003,.hold (.s v1.2.1) (T4.getD 3 undef)),(400012,.hold (.s v1.1) (T4.getD 12 undef)),(400013,.hold (.s v1.2.1) (T4.getD 13 undef)),(400024,.hold (.bo true) (T4.getD 24 undef))]) .ret (fun b10=>[(4,.bo false)]) (fun b10=>[(499999,.sus g0.w.heap.size ds4),(400003,.hold (.s v1.2.1) (T4.getD 3 undef)),(400012,.hold (.s v1.1) (T4.getD 12 undef)),(400013,.hold (.s v1.2.1) (T4.getD 13 undef)),(400024,.hold (.bo true) (T4.getD 24 undef))]) rfl rfl (fun s8 x12 hr=>?_) (fun b9 hr=>?_) (fun b10 hr=>?_)
      .unfold qOa at hr;refine rn tk 6 rfl<|ac 9 hr rfl (fun c13 hr=>?_) (fun c13 hr=>?_)
       .refine rn tk 15 rfl ?_;obtain ⟨v14,h15,hr⟩:=zaa hr;refine ws tk h15 rfl rfl rfl rfl<|il (fn:=f148) (args:=[.u8 v14]) 600000 699999 [(0,.s v1.1),(1,.fn (.func 148) [] []),(7,.i ((v1.1.length:Int))),(8,.i s8)] rfl ⟨func148,rfl,by kernel_rfl⟩ rfl rfl rfl fun T6 ds6=>?_
        refine rn tk 5 rfl<|jb hr (fun j16=>[(2,.bo j16)]) (fun j16=>[(699999,.sus g0.w.heap.size ds6),(600000,.hold (.s v1.1) (T6.getD 0 undef)),(600001,.hold (.fn (.func 148) [] []) (T6.getD 1 undef)),(600007,.hold (.i ((v1.1.length:Int))) (T6.getD 7 undef)),(600008,.hold (.i s8) (T6.getD 8 undef)),(499999,.sus g0.w.heap.size ds4),(400003,.hold (.s v1.2.1) (T4.getD 3 undef)),(400012,.hold (.s v1.1) (T4.getD 12 undef)),(400013,.hold (.s v1.2.1) (T4.getD 13 undef)),(400024,.hold (.bo true) (T4.getD 24 undef))]) (fun j16 hr=>?_) (fun j16 hr=>?_)
        .refine rn tk 2 rfl ?_;obtain ⟨v17,h18,hr⟩:=zaa hr;refine cl (j3a _ _ h18) rfl rfl<|rn tk 1 rfl<|bs 5 hr rfl (fun c19 hr=>?_) (fun c19 hr=>?_)
         .refine rn tk 6 rfl ?_;cases hr;exact jn _ rfl rfl rfl
         refine rn tk 1 rfl ?_;obtain ⟨v20,h21,hr⟩:=zaa hr;refine ug rfl rfl rfl<|cl (vBa _ _ _ h21) rfl rfl<|rn tk 4 rfl ?_;cases hr;exact jn _ rfl rfl rfl
        refine rn tk 1 rfl ?_;refine ie tk [.bo j16] [(0,.s v1.1),(1,.fn (.func 148) [] []),(7,.i ((v1.1.length:Int))),(8,.i s8)] [(499999,.sus g0.w.heap.size ds4),(400003,.hold (.s v1.2.1) (T4.getD 3 undef)),(400012,.hold (.s v1.1) (T4.getD 12 undef)),(400013,.hold (.s v1.2.1) (T4.getD 13 undef)),(400024,.hold (.bo true) (T4.getD 24 undef))] (.inr rfl) rfl rfl rfl rfl (hO ?_);refine rn tk 3 rfl<|ac 16 hr rfl (fun c22 hr=>?_) (fun c22 hr=>?_)
        .refine rn tk 8 rfl ?_;cases hr;exact ato rfl rfl rfl rfl
        refine rn tk 7 rfl ?_;cases hr;exact atc rfl rfl
       refine rn tk 2 rfl ?_;cases hr;exact ato rfl rfl rfl rfl
      .refine rn tk 8 rfl ?_;refine ie tk [.bo true] [(3,.s v1.2.1),(12,.s v1.1),(13,.s v1.2.1),(24,.bo true)] [] (.inr rfl) rfl rfl rfl rfl ?_;cases hr;exact jump4 _ _ rfl rfl
      refine rn tk 2 rfl ?_;refine ie tk [.bo false] [(3,.s v1.2.1),(12,.s v1.1),(13,.s v1.2.1),(24,.bo true)] [] (.inr rfl) rfl rfl rfl rfl ?_;cases hr;exact jump4 _ _ rfl rfl
     refine rn tk 2 rfl<|bs 29 hr rfl (fun c23 hr=>?_) (fun c23 hr=>?_)
     .refine rn tk 1 rfl ?_;obtain ⟨v24,h25,hr⟩:=zaa hr;refine ug rfl rfl rfl<|cl (yya _ _ h25) rfl rfl<|rn tk 5 rfl ?_;cases hr;exact jn _ rfl rfl rfl
     refine rn tk 7 rfl ?_;cases hr;exact jn _ rfl rfl rfl
    refine rn tk 12 rfl ?_;cases hr;exact jn _ rfl rfl rfl
   refine rn tk 17 rfl ?_;cases hr;exact jn _ rfl rfl rfl
  refine rn tk 21 rfl ?_;cases hr;exact jn _ rfl rfl rfl
 refine rn tk 1 rfl ?_;cases hr;exact kr tk (.inr rfl) rfl rfl
theorem w6a(a0:Str)(r:Bool)(hr:qsa a0=some r):Run prog 124 [.s a0] (.bo r):=by
 unfold qsa at hr;refine rf (fn:=f124) ⟨func124,rfl,by kernel_rfl⟩ rfl (fun _=>rfl) fun g0 hg=>?_
 refine rn tk 8 rfl ?_;obtain ⟨v1,h2,hr⟩:=zaa hr;refine cl (yRa _ _ h2) rfl rfl<|rn tk 16 rfl ?_;cases hr;exact kr tk (.inr rfl) rfl rfl
theorem Kua(a0:Int)(r:Bool)(hr:vsa a0=some r):Run prog 142 [.i a0] (.bo r):=by
 unfold vsa at hr;refine rf (fn:=f142) ⟨func142,rfl,by kernel_rfl⟩ rfl (fun _=>rfl) fun g0 hg=>?_
 refine rn tk 5 rfl<|jb hr (fun j1=>[(2,.bo j1)]) (fun j1=>[]) (fun j1 hr=>?_) (fun j1 hr=>?_)
 .refine rn tk 4 rfl<|bs 5 hr rfl (fun c2 hr=>?_) (fun c2 hr=>?_)
  .refine rn tk 5 rfl ?_;cases hr;exact jn _ rfl rfl rfl
  refine rn tk 5 rfl ?_;cases hr;exact jn _ rfl rfl rfl
 refine rn tk 1 rfl ?_;cases hr;exact kr tk (.inr rfl) rfl rfl
theorem jWa(a0:List zba)(r:zsa)(hr:qma a0=some r):Run prog 126 [.l zba.pc a0] (.agg [.i r.Code,.i r.Index]):=by
 unfold qma at hr;refine rf (fn:=f126) ⟨func126,rfl,by kernel_rfl⟩ rfl (fun _=>rfl) fun g0 hg=>?_
 refine rn tk 9 rfl<|wn tk rfl rfl rfl<|rn tk 4 rfl<|al2 hr (fun s1=>[(0,.l zba.pc a0),(2,.ptr 2 0),(5,.l zba.pc a0),(6,.i ((a0.length:Int))),(7,.i s1)]) (fun s1=>[(2,.cells [.i 0,.i 0])]) (.exit 0) (fun b2=>[(2,.ptr 2 0)]) (fun b2=>[(2,.cells [.i 0,.i 0])]) .ret (fun b3=>[(2,.ptr 2 0)]) (fun b3=>[(2,.cells [.i b3.Code,.i b3.Index])]) rfl rfl (fun s1 x5 hr=>?_) (fun b2 hr=>?_) (fun b3 hr=>?_)
 .unfold qqa at hr;refine rn tk 6 rfl<|ac 8 hr rfl (fun c6 hr=>?_) (fun c6 hr=>?_)
  .refine rn tk 7 rfl ?_;obtain ⟨v7,h8,hr⟩:=zaa hr;refine wi tk h8 rfl rfl rfl rfl rfl<|rn tk 11 rfl ?_;obtain ⟨v9,h10,hr⟩:=zaa hr;refine cl (w6a _ _ h10) rfl rfl<|rn tk 4 rfl<|ac 12 hr rfl (fun c11 hr=>?_) (fun c11 hr=>?_)
   .refine rn tk 3 rfl ?_;obtain ⟨v12,h13,hr⟩:=zaa hr;refine cl (zia _ _ _ h13) rfl rfl<|rn tk 7 rfl ?_;cases hr;exact ato rfl rfl rfl rfl
   refine rn tk 4 rfl ?_;obtain ⟨v14,h15,hr⟩:=zaa hr;refine cl (Kua _ _ h15) rfl rfl<|rn tk 4 rfl<|ac 19 hr rfl (fun c16 hr=>?_) (fun c16 hr=>?_)
   .refine rn tk 3 rfl ?_;obtain ⟨v17,h18,hr⟩:=zaa hr;refine cl (zia _ _ _ h18) rfl rfl<|rn tk 7 rfl ?_;cases hr;exact ato rfl rfl rfl rfl
   refine rn tk 4 rfl ?_;obtain ⟨v19,h20,hr⟩:=zaa hr;refine wlH tk h20 rfl rfl rfl (fun _=>rfl) rfl<|rn tk 1 rfl<|il (fn:=Tryz.f143) (args:=[.l zba.pc v19,.fn (.func 144) [] [.ptr 4 0]]) 500000 599999 [(0,.l zba.pc a0),(2,.ptr 2 0),(3,.i s1),(5,.l zba.pc a0),(6,.i ((a0.length:Int))),(7,.i s1)] rfl ⟨func143,rfl,by kernel_rfl⟩ rfl rfl rfl fun T5 ds5=>?_
   refine rn tk 9 rfl<|ct hr (fun j21=>[(7,.i j21)]) (fun j21=>[(599999,.sus g0.w.heap.size ds5),(500000,.hold (.l zba.pc a0) (T5.getD 0 undef)),(500002,.hold (.ptr 2 0) (T5.getD 2 undef)),(500005,.hold (.l zba.pc a0) (T5.getD 5 undef)),(500006,.hold (.i ((a0.length:Int))) (T5.getD 6 undef)),(500007,.hold (.i s1) (T5.getD 7 undef)),(500003,.hold (.i s1) (T5.getD 3 undef)),(2,.cells [.i 0,.i 0])]) (fun j21 hr jump6=>?_) (fun j21 hr=>?_)
   .refine il (fn:=f151) (args:=[.l zba.pc v19,.fn (.func 144) [] [.ptr 4 0]]) 600000 699999 [] rfl ⟨func151,rfl,by kernel_rfl⟩ rfl rfl rfl fun T6 ds6=>?_
    refine rn tk 9 rfl<|wn tk rfl rfl rfl<|rn tk 4 rfl<|al2 hr (fun s22=>[(0,.l zba.pc v19),(1,.fn (.func 144) [] [.ptr 4 0]),(7,.i ((v19.length:Int))),(8,.i s22)]) (fun s22=>[(699999,.sus g0.w.heap.size ds6),(599999,.sus g0.w.heap.size ds5),(500000,.hold (.l zba.pc a0) (T5.getD 0 undef)),(500002,.hold (.ptr 2 0) (T5.getD 2 undef)),(500005,.hold (.l zba.pc a0) (T5.getD 5 undef)),(500006,.hold (.i ((a0.length:Int))) (T5.getD 6 undef)),(500007,.hold (.i s1) (T5.getD 7 undef)),(500003,.hold (.i s1) (T5.getD 3 undef)),(4,.cells [.s v7.Address,.i v7.Notify]),(2,.cells [.i 0,.i 0])]) (.exit 0) (fun b23=>[]) (fun b23=>[(699999,.sus g0.w.heap.size ds6),(599999,.sus g0.w.heap.size ds5),(500000,.hold (.l zba.pc a0) (T5.getD 0 undef)),(500002,.hold (.ptr 2 0) (T5.getD 2 undef)),(500005,.hold (.l zba.pc a0) (T5.getD 5 undef)),(500006,.hold (.i ((a0.length:Int))) (T5.getD 6 undef)),(500007,.hold (.i s1) (T5.getD 7 undef)),(500003,.hold (.i s1) (T5.getD 3 undef)),(2,.cells [.i 0,.i 0])]) .ret (fun b24=>[(4,.i b24)]) (fun b24=>[(699999,.sus g0.w.heap.size ds6),(599999,.sus g0.w.heap.size ds5),(500000,.hold (.l zba.pc a0) (T5.getD 0 undef)),(500002,.hold (.ptr 2 0) (T5.getD 2 undef)),(500005,.hold (.l zba.pc a0) (T5.getD 5 undef)),(500006,.hold (.i ((a0.length:Int))) (T5.getD 6 undef)),(500007,.hold (.i s1) (T5.getD 7 undef)),(500003,.hold (.i s1) (T5.getD 3 undef)),(2,.cells [.i 0,.i 0])]) rfl rfl (fun s22 x26 hr=>?_) (fun b23 hr=>?_) (fun b24 hr=>?_)
    .unfold kXa at hr;refine rn tk 6 rfl<|ac 9 hr rfl (fun c27 hr=>?_) (fun c27 hr=>?_)
     .refine rn tk 15 rfl ?_;obtain ⟨v28,h29,hr⟩:=zaa hr;refine wi tk h29 rfl rfl rfl rfl rfl<|rn tk 1 rfl<|il (fn:=Tryz.f144) (args:=[.agg [.s v28.Address,.i v28.Notify],.ptr 4 0]) 800000 899999 [(0,.l zba.pc v19),(1,.fn (.func 144) [] [.ptr 4 0]),(5,.i s22),(7,.i ((v19.length:Int))),(8,.i s22)] rfl ⟨func144,rfl,by kernel_rfl⟩ rfl rfl rfl fun T8 ds8=>?_
      refine rn tk 2 rfl<|wo (ZFa (k:=2) 1002 rfl rfl rfl rfl rfl) rfl<|rn tk 14 rfl ?_;refine ie tk [.bo ((v28.Address==v7.Address))] [(0,.l zba.pc v19),(1,.fn (.func 144) [] [.ptr 4 0]),(5,.i s22),(7,.i ((v19.length:Int))),(8,.i s22)] [(1002,.cells [.s v28.Address,.i v28.Notify]),(699999,.sus g0.w.heap.size ds6),(599999,.sus g0.w.heap.size ds5),(500000,.hold (.l zba.pc a0) (T5.getD 0 undef)),(500002,.hold (.ptr 2 0) (T5.getD 2 undef)),(500005,.hold (.l zba.pc a0) (T5.getD 5 undef)),(500006,.hold (.i ((a0.length:Int))) (T5.getD 6 undef)),(500007,.hold (.i s1) (T5.getD 7 undef)),(500003,.hold (.i s1) (T5.getD 3 undef)),(4,.cells [.s v7.Address,.i v7.Notify]),(2,.cells [.i 0,.i 0])] (.inr rfl) rfl rfl rfl rfl (hO ?_);refine rn tk 2 rfl<|ac 16 hr rfl (fun c30 hr=>?_) (fun c30 hr=>?_)
      .refine rn tk 9 rfl ?_;cases hr;exact ato rfl rfl rfl rfl
      refine rn tk 7 rfl ?_;cases hr;exact atc rfl rfl
     refine rn tk 2 rfl ?_;cases hr;exact ato rfl rfl rfl rfl
    .refine rn tk 8 rfl ?_;refine ie tk [.i ((-1))] [] [(599999,.sus g0.w.heap.size ds5),(500000,.hold (.l zba.pc a0) (T5.getD 0 undef)),(500002,.hold (.ptr 2 0) (T5.getD 2 undef)),(500005,.hold (.l zba.pc a0) (T5.getD 5 undef)),(500006,.hold (.i ((a0.length:Int))) (T5.getD 6 undef)),(500007,.hold (.i s1) (T5.getD 7 undef)),(500003,.hold (.i s1) (T5.getD 3 undef)),(2,.cells [.i 0,.i 0])] (.inr rfl) rfl rfl rfl rfl ?_;cases hr;exact jump6 _ _ rfl rfl
    refine rn tk 2 rfl ?_;refine ie tk [.i b24] [] [(599999,.sus g0.w.heap.size ds5),(500000,.hold (.l zba.pc a0) (T5.getD 0 undef)),(500002,.hold (.ptr 2 0) (T5.getD 2 undef)),(500005,.hold (.l zba.pc a0) (T5.getD 5 undef)),(500006,.hold (.i ((a0.length:Int))) (T5.getD 6 undef)),(500007,.hold (.i s1) (T5.getD 7 undef)),(500003,.hold (.i s1) (T5.getD 3 undef)),(2,.cells [.i 0,.i 0])] (.inr rfl) rfl rfl rfl rfl ?_;cases hr;exact jump6 _ _ rfl rfl
   refine rn tk 5 rfl ?_;refine ie tk [.bo (decide (0<=j21))] [(0,.l zba.pc a0),(2,.ptr 2 0),(3,.i s1),(5,.l zba.pc a0),(6,.i ((a0.length:Int))),(7,.i s1)] [(2,.cells [.i 0,.i 0])] (.inr rfl) rfl rfl rfl rfl (hO ?_);refine rn tk 3 rfl<|ac 26 hr rfl (fun c31 hr=>?_) (fun c31 hr=>?_)
   .refine rn tk 3 rfl ?_;obtain ⟨v32,h33,hr⟩:=zaa hr;refine cl (zia _ _ _ h33) rfl rfl<|rn tk 7 rfl ?_;cases hr;exact ato rfl rfl rfl rfl
   refine rn tk 8 rfl ?_;cases hr;exact atc rfl rfl
  refine rn tk 2 rfl ?_;cases hr;exact ato rfl rfl rfl rfl
 .refine rn tk 4 rfl ?_;obtain ⟨v34,h35,hr⟩:=zaa hr;refine cl (zXa _ h35) rfl rfl<|rn tk 4 rfl ?_;cases hr;exact kr tk (.inr rfl) rfl rfl
 refine rn tk 2 rfl ?_;cases hr;exact kr tk (.inr rfl) rfl rfl
theorem ZAa(a0:zNa)(r:zsa)(hr:qPa a0=some r):Run prog 88 [.agg (zN3 a0)] (.agg [.i r.Code,.i r.Index]):=by
 unfold qPa at hr;refine rf (fn:=f88) ⟨func88,rfl,by kernel_rfl⟩ rfl (fun _=>rfl) fun g0 hg=>?_
 refine rn tk 8 rfl<|jb hr (fun j1=>[(1,.ptr 1 0),(2,.ptr 2 0),(3,.bo j1)]) (fun j1=>[(2,.cells [.i 0,.i 0]),(1,.cells (zN3 a0))]) (fun j1 hr=>?_) (fun j1 hr=>?_)
 .refine rn tk 5 rfl<|bs 7 hr rfl (fun c2 hr=>?_) (fun c2 hr=>?_)
  .refine rn tk 2 rfl ?_;obtain ⟨v3,h4,hr⟩:=zaa hr;refine ug rfl rfl rfl<|cl (w6a _ _ h4) rfl rfl<|rn tk 4 rfl ?_;cases hr;exact jn _ rfl rfl rfl
  refine rn tk 7 rfl ?_;cases hr;exact jn _ rfl rfl rfl
 refine ac 3 hr rfl (fun c5 hr=>?_) (fun c5 hr=>?_)
 .refine rn tk 2 rfl ?_;obtain ⟨v6,h7,hr⟩:=zaa hr;refine cl (zia _ _ _ h7) rfl rfl<|rn tk 6 rfl ?_;cases hr;exact kr tk (.inr rfl) rfl rfl
 refine jb hr (fun j8=>[(1,.ptr 1 0),(2,.ptr 2 0),(14,.bo j8)]) (fun j8=>[(2,.cells [.i 0,.i 0]),(1,.cells (zN3 a0))]) (fun j8 hr=>?_) (fun j8 hr=>?_)
 .refine rn tk 3 rfl<|wn tk rfl rfl rfl<|rn tk 2 rfl<|bs 19 hr rfl (fun c9 hr=>?_) (fun c9 hr=>?_)
  .refine rn tk 7 rfl ?_;cases hr;exact jn _ rfl rfl rfl
  refine rn tk 2 rfl<|ug rfl rfl rfl<|wn tk rfl rfl rfl<|rn tk 4 rfl ?_;cases hr;exact jn _ rfl rfl rfl
 refine ac 14 hr rfl (fun c10 hr=>?_) (fun c10 hr=>?_)
 .refine rn tk 2 rfl ?_;obtain ⟨v11,h12,hr⟩:=zaa hr;refine cl (zia _ _ _ h12) rfl rfl<|rn tk 6 rfl ?_;cases hr;exact kr tk (.inr rfl) rfl rfl
 refine jb hr (fun j13=>[(1,.ptr 1 0),(2,.ptr 2 0),(26,.bo j13)]) (fun j13=>[(2,.cells [.i 0,.i 0]),(1,.cells (zN3 a0))]) (fun j13 hr=>?_) (fun j13 hr=>?_)
 .refine rn tk 5 rfl<|bs 30 hr rfl (fun c14 hr=>?_) (fun c14 hr=>?_)
  .refine rn tk 2 rfl ?_;obtain ⟨v15,h16,hr⟩:=zaa hr;refine ug rfl rfl rfl<|cl (WHa _ _ h16) rfl rfl<|rn tk 4 rfl ?_;cases hr;exact jn _ rfl rfl rfl
  refine rn tk 7 rfl ?_;cases hr;exact jn _ rfl rfl rfl
 refine ac 26 hr rfl (fun c17 hr=>?_) (fun c17 hr=>?_)
 .refine rn tk 2 rfl ?_;obtain ⟨v18,h19,hr⟩:=zaa hr;refine cl (zia _ _ _ h19) rfl rfl<|rn tk 6 rfl ?_;cases hr;exact kr tk (.inr rfl) rfl rfl
 refine rn tk 7 rfl ?_;obtain ⟨v20,h21,hr⟩:=zaa hr;refine cl (jWa _ _ h21) rfl rfl<|rn tk 4 rfl ?_;cases hr;exact kr tk (.inr rfl) rfl rfl
end Go.Proofs.YtdblnmhmmfahkaaGreat
