/- Part 4 of the proof of the law QueueAddMatchesSpec: what it needs. -/
import Derived.Test.YtgajlblehdboiaaGreatKQueueAddMatchesSpec3
import Derived.Laws.RangeAny
import Derived.Lib.ItoaMem
import Derived.Shelf.Small.Utf8
import Derived.Shelf.Small.Bits
import Derived.Shelf.Small.Strs
import Derived.Shelf.Small.Wraps
import Derived.Shelf.Strconv.Itoa0
import Derived.Shelf.Strings.Search1
import Derived.Shelf.Strings.Search2
import Derived.Shelf.Strings.Search3
import Derived.Shelf.Strings.Cut
import Derived.Shelf.LaysM
import Derived.Shelf.Strings.Shaped
import Derived.Shelf.Strings.Prefix
import Derived.Shelf.Strings.Runes
import Derived.Shelf.Strings.IndexAny
import Derived.Shelf.Strings.AsciiSet
import Derived.Shelf.Strings.IndexAnyAll
import Derived.Ground.Names2Prog
import Derived.Shelf.Slices.SearchI
import Derived.Shelf.SlSortCmp.WholeK
import Derived.Shelf.SlSortCmp.NoneTotal
import Derived.Ground.SlsfProg
import Derived.Test.YtgajlblehdboiaaGreatProg
set_option linter.unusedVariables false
set_option linter.unusedSimpArgs false
set_option maxRecDepth 100000
set_option maxHeartbeats 40000000
namespace Go.Proofs.YtgajlblehdboiaaGreat
open Go.RowKit Go.Proofs.Tryz
section
theorem w64_ns(a b:Nat)(h:b<=a)(ha:a<=9223372036854775807):w64 ((a:Int) - (b:Int))=((a - b:Nat):Int):=by
 rw[vja (by omega) (by omega)];omega
theorem Yfa(a:Nat)(h:a<=9223372036854775807):w64 (a:Int)=(a:Int):=vja (by omega) (by omega)
theorem ysa(c:UInt8)(k:Nat)(hk:OfNat.ofNat k < 256):((c.toNat:Int)==no_index (OfNat.ofNat k:Int))=(c==OfNat.ofNat k):=by
 have e:(OfNat.ofNat k:Int)=((OfNat.ofNat k:Nat):Int):=rfl;have h2:(OfNat.ofNat k:UInt8).toNat=(OfNat.ofNat k:Nat):=by
  show (UInt8.ofNat k).toNat=k;rw[UInt8.toNat_ofNat'];exact Nat.mod_eq_of_lt hk
 rw[Bool.eq_iff_iff,beq_iff_eq,beq_iff_eq,<-UInt8.toNat_inj,h2,e];omega
theorem Vka(c:UInt8)(k:Nat)(hk:OfNat.ofNat k < 256):((c.toNat:Int) !=no_index (OfNat.ofNat k:Int))=(c !=OfNat.ofNat k):=by
 unfold bne;rw[ysa c k hk]
section
variable {α:Type}
theorem Vla(l:List α)(i:Nat):idx l (i:Int)=l[i]? :=by unfold idx;rw[if_pos (by omega)];simp
theorem Wta{l:List α}{i:Nat}(h:i < l.length):idx l (i:Int)=some l[i]:=by rw[Vla];exact List.getElem?_eq_getElem h
theorem cut_nn{l:List α}{a b:Nat}(h1:a<=b)(h2:b<=l.length):cut l (a:Int) (b:Int)=some ((l.drop a).take (b - a)):=by
 unfold cut;rw[if_pos (by omega)];simp
theorem Vma{l:List α}{a:Nat}(h1:a<=l.length):cut l (a:Int) (l.length:Int)=some (l.drop a):=by
 rw[cut_nn h1 (Nat.le_refl _)];rw[List.take_of_length_le (by simp)]
theorem Vna{l:List α}{b:Nat}(h2:b<=l.length):cut l 0 (b:Int)=some (l.take b):=by
 have:=cut_nn (l:=l) (a:=0) (b:=b) (by omega) h2;simpa using this
theorem qPa{lim:Nat}{l xs:List α}(h:l.length+xs.length<=lim):app lim l xs=some (l++xs):=by unfold app;rw[if_pos h]
theorem cat_ok{a b:Str}(h:a.length+b.length<=9223372036854775807):cat a b=some (a++b):=by unfold cat;rw[if_pos h]
end
section
variable {A R:Type} {body:A->Option (Step A R)}
theorem Yga(Inv:A->Prop)(m:A->Nat)(Post:A->R->Prop)
 (h:∀s,Inv s->(∃r,body s=some (.out r)/\Post s r)∨∃s',body s=some (.cont s')/\Inv s' /\m s' < m s/\∀r,Post s' r->Post s r):
 ∀s,Inv s->∃r,iter body s=some r/\Post s r:=by
 intro s;induction hn:m s using Nat.strongRecOn generalizing s with
 | _ n ih=>
  intro hi;rcases h s hi with ⟨r,h1,h2⟩ | ⟨s',h1,h2,h3,h4⟩
  .exact ⟨r,zIa h1,h2⟩
  obtain ⟨r,h5,h6⟩:=ih (m s') (by omega) s' rfl h2;exact ⟨r,(zVa h1).trans h5,h4 r h6⟩
theorem Kta{α S:Type}(l:List α)(enc:Nat->S->A)(spec:Nat->List α->S->R)
 (h0:∀s,body (enc l.length s)=some (.out (spec l.length [] s)))
 (h1:∀p x r s,l=p++x::r->(body (enc p.length s)=some (.out (spec p.length (x::r) s)))∨∃s',body (enc p.length s)=some (.cont (enc (p.length+1) s'))/\spec p.length (x::r) s=spec (p.length+1) r s'):
 ∀{s0:A} (s:S) (_:s0=enc 0 s),iter body s0=some (spec 0 l s):=by
 have key:∀r p s,l=p++r->iter body (enc p.length s)=some (spec p.length r s):=by
  intro r;induction r with
  | nil=>
   intro p s h;have:p=l:=by simp[h]
   subst this;exact zIa (h0 s)
  | cons x r ih=>
   intro p s h;rcases h1 p x r s h with hb | ⟨s',hb,hs⟩
   .exact zIa hb
   rw[zVa hb,hs];have:=ih (p++ [x]) s' (by simp[h]);simpa using this
 rintro _ s rfl;exact key l [] s rfl
theorem Wua{α S:Type}(l:List α)(enc:Nat->S->A)(spec:Nat->List α->S->R)(Inv:Nat->List α->S->Prop)
 (h0:∀s,Inv l.length [] s->body (enc l.length s)=some (.out (spec l.length [] s)))
 (h1:∀p x r s,l=p++x::r->Inv p.length (x::r) s->(body (enc p.length s)=some (.out (spec p.length (x::r) s)))∨∃s',body (enc p.length s)=some (.cont (enc (p.length+1) s'))/\spec p.length (x::r) s=spec (p.length+1) r s' /\Inv (p.length+1) r s'):
 ∀{s0:A} (s:S) (_:s0=enc 0 s) (_:Inv 0 l s),iter body s0=some (spec 0 l s):=by
 have key:∀r p s,l=p++r->Inv p.length r s->iter body (enc p.length s)=some (spec p.length r s):=by
  intro r;induction r with
  | nil=>
   intro p s h hi;have:p=l:=by simp[h]
   subst this;exact zIa (h0 s hi)
  | cons x r ih=>
   intro p s h hi;rcases h1 p x r s h hi with hb | ⟨s',hb,hs,hi'⟩
   .exact zIa hb
   rw[zVa hb,hs];have:=ih (p++ [x]) s' (by simp[h]) (by simpa using hi');simpa using this
 rintro _ s rfl hi;exact key l [] s rfl hi
end
end
section
section
variable {α R O A S:Type}
def zTa(q:Nat->α->Option R):Nat->List α->Option R
 | _,[]=>none
 | i,x::r=>match q i x with | some y=>some y | none=>zTa q (i+1) r
theorem zKa(l:List α)(q:Nat->α->Option R)(oN:O)(oS:R->O){body:Int->Option (Step Int O)}(hl:body (l.length:Int)=some (.out oN))
 (hs:∀(i:Nat) x,l[i]? =some x->body (i:Int)=some ((q i x).elim (.cont ((i+1:Nat):Int)) fun r=>.out (oS r))):
 iter body 0=some ((zTa q 0 l).elim oN oS):=by
 have key:∀r p,l=p++r->iter body (p.length:Int)=some ((zTa q p.length r).elim oN oS):=by
  intro r;induction r with
  | nil=>
   intro p h;have:p=l:=by simp[h]
   subst this;exact zIa hl
  | cons x r ih=>
   intro p h;have hx:=hs p.length x (by simp[h]);unfold zTa;cases hq:q p.length x with
   | some y=>rw[hq]at hx;exact zIa hx
   | none=>
    rw[hq]at hx;rw[zVa hx];have:=ih (p++ [x]) (by simp[h]);simpa using this
 exact key l [] rfl
theorem kvb(l:List α)(enc:Int->S->A)(f:Nat->S->α->S)(out:S->O)(Inv:Nat->S->Prop){body:A->Option (Step A O)}
 (hl:∀s,Inv l.length s->body (enc l.length s)=some (.out (out s)))
 (hs:∀(i:Nat) x s,l[i]? =some x->Inv i s->body (enc i s)=some (.cont (enc ((i+1:Nat):Int) (f i s x)))/\Inv (i+1) (f i s x)) (s:S) (h0:Inv 0 s):
 ∃t,iter body (enc 0 s)=some (out t)/\Inv l.length t/\t=(l.zipIdx.foldl (fun s p=>f p.2 s p.1) s):=by
 have key:∀r p s,l=p++r->Inv p.length s->∃t,iter body (enc (p.length:Int) s)=some (out t)/\Inv l.length t/\t=((r.zipIdx p.length).foldl (fun s p=>f p.2 s p.1) s):=by
  intro r;induction r with
  | nil=>
   intro p s h hi;have:p=l:=by simp[h]
   subst this;exact ⟨s,zIa (hl s hi),hi,rfl⟩
  | cons x r ih=>
   intro p s h hi;obtain ⟨h1,h2⟩:=hs p.length x s (by simp[h]) hi;rw[zVa h1];obtain ⟨t,h3,h4,h5⟩:=ih (p++ [x]) (f p.length s x) (by simp[h]) (by simpa using h2);refine ⟨t,by simpa using h3,h4,?_⟩;rw[h5];simp
 exact key l [] s rfl h0
theorem Jaa(f:S->α->S)(l:List α):∀(n:Nat) (s:S),(l.zipIdx n).foldl (fun s p=>f s p.1) s=l.foldl f s:=by
 induction l with
 | nil=>intro n s;rfl
 | cons x r ih=>intro n s;simp[ih]
theorem Kua(l:List α)(enc:Int->S->A)(f:S->α->S)(out:S->O)(Inv:Nat->S->Prop){body:A->Option (Step A O)}
 (hl:∀s,Inv l.length s->body (enc l.length s)=some (.out (out s)))
 (hs:∀(i:Nat) x s,l[i]? =some x->Inv i s->body (enc i s)=some (.cont (enc ((i+1:Nat):Int) (f s x)))/\Inv (i+1) (f s x)) (s:S) (h0:Inv 0 s):
 iter body (enc 0 s)=some (out (l.foldl f s))/\Inv l.length (l.foldl f s):=by
 obtain ⟨t,h1,h2,h3⟩:=kvb l enc (fun _=>f) out Inv hl hs s h0;have:t=l.foldl f s:=by rw[h3];exact Jaa f l 0 s
 subst this;exact ⟨h1,h2⟩
theorem y3a(c:α->Bool)(r:R)(l:List α)(n:Nat):zTa (fun _ x=>if c x then some r else none) n l=if l.any c then some r else none:=by
 induction l generalizing n with
 | nil=>rfl
 | cons x l ih=>unfold zTa;cases h:c x <;> simp[h,ih]
theorem qBa{q:Nat->α->Option R}{l:List α}{n:Nat}:zTa q n l=none↔∀(i:Nat) x,l[i]? =some x->q (n+i) x=none:=by
 induction l generalizing n with
 | nil=>simp[zTa]
 | cons x l ih=>
  unfold zTa;cases h:q n x with
  | some y=>
   simp only[reduceCtorEq,false_iff];intro hh;have:=hh 0 x rfl;rw[Nat.add_zero,h]at this;cases this
  | none=>
   rw[ih];constructor
   .intro hh i y hy;cases i with
    | zero=>simp at hy;subst hy;exact h
    | succ i=>rw[show n+(i+1)=n+1+i by omega];exact hh i y (by simpa using hy)
   intro hh i y hy;rw[show n+1+i=n+(i+1) by omega];exact hh (i+1) y (by simpa using hy)
theorem jla{q:Nat->α->Option R}{l:List α}{n:Nat}{r:R}(h:zTa q n l=some r):∃(i:Nat) (x:α),l[i]? =some x/\q (n+i) x=some r:=by
 induction l generalizing n with
 | nil=>cases h
 | cons x l ih=>
  unfold zTa at h;cases hq:q n x with
  | some y=>rw[hq]at h;cases h;exact ⟨0,x,rfl,hq⟩
  | none=>
   rw[hq]at h;obtain ⟨i,y,h1,h2⟩:=ih h;exact ⟨i+1,y,by simpa using h1,by rw[show n+(i+1)=n+1+i by omega];exact h2⟩
theorem zGa{l:List α}{i:Nat}{x:α}(h:l[i]? =some x):i < l.length:=(List.getElem?_eq_some_iff.1 h).1
theorem zUa{l:List α}{i:Nat}{x:α}(h:l[i]? =some x):decide ((i:Int) < (l.length:Int))=true:=by have:=zGa h;simp;omega
theorem zEa(l:List α):decide ((l.length:Int) < (l.length:Int))=false:=by simp
theorem zta{l:List α}{i:Nat}{x:α}(h:l[i]? =some x):idx l (i:Int)=some x:=by rw[Vla];exact h
end
end
def Voa(c:UInt8):Bool:=(decide (97<=c) && decide (c<=122)) || (decide (65<=c) && decide (c<=90)) || (decide (48<=c) && decide (c<=57))
def wQa(c:UInt8):Bool:=(decide (97<=c) && decide (c<=122)) || (decide (48<=c) && decide (c<=57)) || c==45 || c==46
def Qza(c:UInt8):Bool:=Voa c || c==45 || c==95 || c==46 || c==43 || c==61
def jua:Bool->Str->Bool
 | p,[]=> !p
 | p,c::r=>if c=46 then !p && jua true r else jua false r
def domP(s:Str):Bool:=decide (s.length<=60) && s.all wQa && jua true s
def atP(s:Str):Nat:=s.findIdx (· ==64)
def K3a(s:Str):Bool:=decide (atP s < s.length) && decide (1<=atP s) && decide (atP s<=60) && (s.take (atP s)).all Qza && domP (s.drop (atP s+1))
theorem jva(k:Nat)(c:UInt8)(hk:OfNat.ofNat k < 256):decide ((no_index (OfNat.ofNat k:Int))<=(c.toNat:Int))=decide ((OfNat.ofNat k:UInt8)<=c):=by
 have e:(OfNat.ofNat k:Int)=((OfNat.ofNat k:Nat):Int):=rfl;have h2:(OfNat.ofNat k:UInt8).toNat=(OfNat.ofNat k:Nat):=by
  show (UInt8.ofNat k).toNat=k;rw[UInt8.toNat_ofNat'];exact Nat.mod_eq_of_lt hk
 rw[Bool.eq_iff_iff,decide_eq_true_eq,decide_eq_true_eq,UInt8.le_iff_toNat_le,h2,e];omega
theorem jwa(k:Nat)(c:UInt8)(hk:OfNat.ofNat k < 256):decide ((c.toNat:Int)<=(no_index (OfNat.ofNat k:Int)))=decide (c<=(OfNat.ofNat k:UInt8)):=by
 have e:(OfNat.ofNat k:Int)=((OfNat.ofNat k:Nat):Int):=rfl;have h2:(OfNat.ofNat k:UInt8).toNat=(OfNat.ofNat k:Nat):=by
  show (UInt8.ofNat k).toNat=k;rw[UInt8.toNat_ofNat'];exact Nat.mod_eq_of_lt hk
 rw[Bool.eq_iff_iff,decide_eq_true_eq,decide_eq_true_eq,UInt8.le_iff_toNat_le,h2,e];omega
theorem wha(a b c:Int):R_In a b c=some (decide (b<=a) && decide (a<=c)):=by
 unfold R_In;cases decide (b<=a) <;> rfl
theorem yAa(c:UInt8):qha c=some (Voa c):=by
 unfold qha Voa;simp only[wha,Option.bind_some,jva 97 c (by decide),jwa 122 c (by decide),jva 65 c (by decide),jwa 90 c (by decide),jva 48 c (by decide),jwa 57 c (by decide)];generalize (decide ((97:UInt8)<=c) && decide (c<=122))=x;generalize (decide ((65:UInt8)<=c) && decide (c<=90))=y;cases x <;> cases y <;> simp
theorem jZa(c:UInt8):vMa c=some (Voa c):=by
 unfold vMa Voa;simp only[jva 97 c (by decide),jwa 122 c (by decide),jva 65 c (by decide),jwa 90 c (by decide),jva 48 c (by decide),jwa 57 c (by decide)];cases decide ((97:UInt8)<=c) <;> cases decide (c<=122) <;> cases decide ((65:UInt8)<=c) <;> cases decide (c<=90) <;> cases decide ((48:UInt8)<=c) <;> cases decide (c<=57) <;> rfl
def wMa(s:Str)(i:Nat):Bool:=if i=0 then true else s[i - 1]? ==some 46
def wia:Bool->Str->Bool
 | _,[]=>true
 | p,c::r=>if c=46 then !p && !r.isEmpty && wia true r else wQa c && wia false r
theorem Jba(p:Bool)(c:UInt8)(r:Str):wia p (c::r)=if c=46 then !p && !r.isEmpty && wia true r else wQa c && wia false r:=rfl
theorem kwb(s:Str)(p:Bool)(h:s≠ []∨p=false):wia p s=(s.all wQa && jua p s):=by
 induction s generalizing p with
 | nil=>simp[wia,jua];rcases h with h | h <;> simp_all
 | cons c r ih=>
  unfold wia jua;by_cases hc:c=46
  .subst hc;simp only[if_true,List.all_cons,show wQa 46=true by decide,Bool.true_and];cases r with
   | nil=>simp[jua]
   | cons d r=>
    rw[ih true (.inl (by simp))];cases p <;> simp
  rw[if_neg hc,if_neg hc];rw[ih false (.inr rfl),List.all_cons,Bool.and_assoc]
theorem Vpa(s:Str)(hs:s.length<=9223372036854775806):iter (qxa s) 0=some (if wia true s then .inl () else .inr false):=by
 have:=Kta (body:=qxa s) s (fun i (_:Unit)=>(i:Int)) (fun i r _=>if wia (wMa s i) r then .inl () else .inr false) (fun _=>by
  unfold qxa;rw[zEa];simp[wia]) (fun p c r _ h=>?_) (s0:=0) () rfl
 .simpa[wMa]using this
 have hc:s[p.length]? =some c:=by simp[h]
 have hidx:=zta hc;have hlen:s.length=p.length+r.length+1:=by rw[h];simp;omega
 have e1:w64 ((s.length:Int) - 1)=((s.length - 1:Nat):Int):=by rw[vja (by omega) (by omega)];omega
 have e2:w64 ((p.length:Int)+1)=((p.length+1:Nat):Int):=by rw[show ((p.length:Int)+1)=((p.length+1:Nat):Int) by omega,Yfa _ (by omega)]
 have hbody:qxa s (p.length:Int)=some (if c=46 then (if wMa s p.length || r.isEmpty then .out (.inr false) else .cont ((p.length+1:Nat):Int)) else if wQa c then .cont ((p.length+1:Nat):Int) else .out (.inr false)):=by
  unfold qxa;rw[zUa hc,hidx];simp only[cond_true,Option.bind_some,wha,ysa c 46 (by decide),Vka c 45 (by decide),Vka c 46 (by decide),jva 97 c (by decide),jwa 122 c (by decide),jva 48 c (by decide),jwa 57 c (by decide),e1,e2];by_cases h46:c=46
  .subst h46;have hsm:(!(decide ((97:UInt8)<=46) && decide ((46:UInt8)<=122)))=true:=by decide
   have hsm2:(!(decide ((48:UInt8)<=46) && decide ((46:UInt8)<=57)))=true:=by decide
   simp only[beq_self_eq_true,cond_true,hsm,hsm2,if_true,bne_self_eq_false];by_cases h0:p.length=0
   .simp[h0,wMa]
   have h0' :((p.length:Int)==0)=false:=by rw[beq_eq_false_iff_ne];omega
   by_cases hl:r=[]
   .subst hl;have:((p.length:Int)==((s.length - 1:Nat):Int))=true:=by rw[hlen];simp
    simp[h0',this]
   have hr:r.isEmpty=false:=by simpa using hl
   have hrl:0 < r.length:=List.length_pos_iff.2 hl;have:((p.length:Int)==((s.length - 1:Nat):Int))=false:=by rw[hlen];simp;omega
   have e3:w64 ((p.length:Int) - 1)=((p.length - 1:Nat):Int):=by rw[vja (by omega) (by omega)];omega
   have hlt:p.length - 1 < s.length:=by omega
   simp only[h0',this,cond_false,e3,Wta hlt,Option.bind_some,hr,Bool.or_false,wMa,if_neg h0,List.getElem?_eq_getElem hlt];rw[ysa _ 46 (by decide)];by_cases hd:s[p.length - 1]=46
   .simp[hd]
   have:(s[p.length - 1]==46)=false:=by simpa using hd
   simp[this,hd]
  have h1:(c==46)=false:=by simpa using h46
  have h2:(c !=46)=true:=by simpa using h46
  simp only[h1,cond_false,if_neg h46,Option.bind_some,wQa,h2];by_cases ha:(decide ((97:UInt8)<=c) && decide (c<=122))=true
  .simp[ha]
  have ha:(decide ((97:UInt8)<=c) && decide (c<=122))=false:=by simpa using ha
  by_cases hb:(decide ((48:UInt8)<=c) && decide (c<=57))=true
  .simp[ha,hb]
  have hb:(decide ((48:UInt8)<=c) && decide (c<=57))=false:=by simpa using hb
  by_cases h45:c=45
  .subst h45;simp[ha,hb]
  have:(c==45)=false:=by simpa using h45
  simp[ha,hb,this,bne]
 have hp1:wMa s (p.length+1)=decide (c=46):=by
  unfold wMa;simp only[Nat.add_sub_cancel,Nat.add_one_ne_zero,if_false,hc];rw[Bool.eq_iff_iff];simp
 rw[hbody];rw[Jba];by_cases h46:c=46
 .subst h46;simp only[if_true];cases hq:(wMa s p.length || r.isEmpty) with
  | true=>
   left;simp only[if_true];have:(!wMa s p.length && !r.isEmpty && wia true r)=false:=by
    cases hp:wMa s p.length <;> simp_all
   rw[this];rfl
  | false=>
   right;refine ⟨(),rfl,?_⟩;have h3:wMa s p.length=false:=by cases hp:wMa s p.length <;> simp_all
   have h4:r.isEmpty=false:=by cases hp:r.isEmpty <;> simp_all
   rw[h3,h4,hp1];simp
 simp only[if_neg h46];cases hq:wQa c with
 | true=>right;exact ⟨(),rfl,by rw[hp1];simp[h46]⟩
 | false=>left;simp
theorem Yha(s:Str)(hs:s.length<=9223372036854775806):ySa s=some (domP s):=by
 unfold ySa;rw[Vpa s hs];by_cases hn:s=[]
 .subst hn;simp[wia,wha,domP,jua]
 rw[kwb s true (.inl hn)];have hpos:0 < s.length:=List.length_pos_iff.2 hn;unfold domP;cases h:(s.all wQa && jua true s) with
 | false=>
  rw[Bool.and_assoc,h];simp
 | true=>
  rw[Bool.and_assoc,h];simp only[if_true,Option.bind_some,wha,Bool.and_true,Sum.elim_inl,Option.some.injEq];rw[Bool.eq_iff_iff];simp;omega
theorem qMb(s:Str)(hs:s.length<=9223372036854775806):Y9a s=some ((atP s:Nat):Int):=by
 unfold Y9a;rw[zKa s (fun i c=>if c==64 then some (i:Int) else none) (.inl ()) .inr]
 .simp only[Option.bind_some];have key:∀(r:Str) (n:Nat),(zTa (fun i (c:UInt8)=>if c==64 then some (i:Int) else none) n r).getD ((n+r.length:Nat):Int)=((n+r.findIdx (· ==64):Nat):Int):=by
   intro r;induction r with
   | nil=>intro n;simp[zTa]
   | cons c r ih=>
    intro n;unfold zTa;rw[List.findIdx_cons];cases hc:(c==64) with
    | true=>simp
    | false=>
     simp only[Bool.false_eq_true,if_false,cond_false];have:=ih (n+1);rw[show n+(c::r).length=n+1+r.length by simp;omega,show n+(r.findIdx (· ==64)+1)=n+1+r.findIdx (· ==64) by omega];exact this
  have:=key s 0;rw[Nat.zero_add,Nat.zero_add]at this;unfold atP;rw[<-this];cases zTa (fun i (c:UInt8)=>if c==64 then some (i:Int) else none) 0 s <;> rfl
 .unfold Kma;rw[zEa];rfl
 intro i c hc;unfold Kma;have hi:=zGa hc;rw[zUa hc,zta hc];simp only[cond_true,Option.bind_some,ysa c 64 (by decide)];cases c==64 with
 | true=>rfl
 | false=>
  simp only[cond_false,Bool.false_eq_true,if_false];rw[show ((i:Int)+1)=((i+1:Nat):Int) by omega,Yfa _ (by omega)];rfl
theorem ZFa(s:Str)(hs:s.length<=9223372036854775806):wfa s=some (K3a s):=by
 have hat:atP s<=s.length:=List.findIdx_le_length;unfold wfa;rw[qMb s hs];simp only[Option.bind_some];have hloop:iter (vpa s (atP s:Int)) 0=some ((zTa (fun _ c=>if !Qza c then some false else none) 0 (s.take (atP s))).elim (.inl ()) .inr):=by
  refine zKa (s.take (atP s)) _ (Sum.inl ()) Sum.inr ?_ ?_
  .have:((s.take (atP s)).length:Int)=(atP s:Int):=by simp;omega
   unfold vpa;rw[this];simp
  intro i c hc;have hi:=zGa hc;simp at hi;have hc2:s[i]? =some c:=by rw[List.getElem?_take_of_lt (by omega)]at hc;exact hc
  unfold vpa;have:decide ((i:Int) < (atP s:Int))=true:=by simp;omega
  rw[this,zta hc2];simp only[cond_true,Option.bind_some,yAa,Vka c 45 (by decide),Vka c 95 (by decide),Vka c 46 (by decide),Vka c 43 (by decide),Vka c 61 (by decide)];rw[show ((i:Int)+1)=((i+1:Nat):Int) by omega,Yfa _ (by omega)];unfold Qza;cases Voa c <;> cases h1:(c==45) <;> cases h2:(c==95) <;> cases h3:(c==46) <;> cases h4:(c==43) <;> cases h5:(c==61) <;> simp[bne,h1,h2,h3,h4,h5]
 rw[hloop,y3a];unfold K3a;have hall:(s.take (atP s)).any (fun c=> !Qza c)= !((s.take (atP s)).all Qza):=by simp[List.not_all_eq_any_not]
 rw[hall];cases hg:(s.take (atP s)).all Qza with
 | false=>simp
 | true=>
  simp only[Bool.not_true,Bool.false_eq_true,if_false,Option.bind_some,wha,Bool.and_true];by_cases h1:1<=atP s/\atP s<=60
  .have e1:(decide ((1:Int)<=(atP s:Int)) && decide ((atP s:Int)<=60))=true:=by simp;omega
   rw[e1];by_cases h2:atP s < s.length
   .have e2:decide ((atP s:Int) < (s.length:Int))=true:=by simp;omega
    rw[e2];simp only[cond_true];rw[show ((atP s:Int)+1)=((atP s+1:Nat):Int) by omega,Yfa _ (by omega),Vma (by omega)];simp only[Option.bind_some];rw[Yha _ (by simp;omega)];simp[h1,h2]
   have e2:decide ((atP s:Int) < (s.length:Int))=false:=by simp;omega
   rw[e2];simp[h2]
  have e1:(decide ((1:Int)<=(atP s:Int)) && decide ((atP s:Int)<=60))=false:=by
   rw[Bool.eq_false_iff];simp;omega
  rw[e1];simp only[cond_false,Option.bind_some]
  congr 1
  symm
  rcases Nat.lt_or_ge (atP s) 1 with h | h
  .have:decide (1<=atP s)=false:=by simp;omega
   rw[this];simp
  have:decide (atP s<=60)=false:=by simp;omega
  rw[this];simp
theorem Yia(s:Str):∀p,jua p s=(!(p && (s.isEmpty || s.head? ==some 46)) && !(s.getLast? ==some 46) && !Lib.contains s [46,46]):=by
 induction s with
 | nil=>intro p;cases p <;> simp[jua,Lib.contains,Lib.index]
 | cons c r ih=>
  intro p;have hcont:Lib.contains (c::r) [46,46]=((c==46 && r.head? ==some 46) || Lib.contains r [46,46]):=by
   unfold Lib.contains;rw[Lib.index];have hpre:([46,46]:List UInt8).isPrefixOf (c::r)=(c==46 && r.head? ==some 46):=by
    cases r with
    | nil=>simp[List.isPrefixOf]
    | cons d r=>simp only[List.isPrefixOf,List.head?_cons,Bool.and_true];rw[Bool.eq_iff_iff];simp;constructor <;> rintro ⟨rfl,rfl⟩ <;> exact ⟨rfl,rfl⟩
   rw[hpre];have hg:=Lib.index_ge r [46,46];cases c==46 && r.head? ==some 46 with
   | true=>simp
   | false=>
    simp only[Bool.false_eq_true,if_false,Bool.false_or];by_cases h:Lib.index r [46,46]= -1
    .simp[h]
    have:(Lib.index r [46,46]== -1)=false:=by simpa using h
    rw[this];simp only[Bool.false_eq_true,if_false];rw[Bool.eq_iff_iff];simp;omega
  rw[hcont,jua];have hlast:(c::r).getLast? =if r.isEmpty then some c else r.getLast? :=by cases r <;> simp
  rw[hlast];by_cases hc:c=46
  .subst hc;rw[if_pos rfl,ih true];cases r with
   | nil=>simp
   | cons d r=>cases p <;> cases hd:(d==46) <;> simp_all [Bool.and_comm,Bool.and_assoc,Bool.and_left_comm]
  have h1:(c==46)=false:=by simpa using hc
  have h2:(some c==some (46:UInt8))=false:=by simpa using hc
  rw[if_neg hc,ih false];cases r with
  | nil=>simp[h1,h2,Lib.contains,Lib.index,hc]
  | cons d r=>simp[h1,h2,hc]
theorem Zpa(s t:Str):kta s t=some (t.isPrefixOf s):=by
 unfold kta z6a;by_cases h:t.length<=s.length
 .have:decide ((t.length:Int)<=(s.length:Int))=true:=by simp;omega
  rw[this,Vna h];simp only[cond_true,Option.bind_some,Option.some.injEq];rw[Bool.eq_iff_iff,beq_iff_eq,List.isPrefixOf_iff_prefix,List.prefix_iff_eq_take];constructor <;> exact fun h=>h.symm
 have:decide ((t.length:Int)<=(s.length:Int))=false:=by simp;omega
 rw[this];simp only[cond_false,Option.bind_some,Option.some.injEq]
 symm
 rw[Bool.eq_false_iff];intro hp;exact h (List.isPrefixOf_iff_prefix.1 hp).length_le
theorem Zqa(s t:Str)(hs:s.length<=9223372036854775806):kua s t=some (t.isSuffixOf s):=by
 unfold kua z7a;by_cases h:t.length<=s.length
 .have:decide ((t.length:Int)<=(s.length:Int))=true:=by simp;omega
  rw[this,w64_ns _ _ h (by omega),Vma (by omega)];simp only[cond_true,Option.bind_some,Option.some.injEq];rw[Bool.eq_iff_iff,beq_iff_eq,List.isSuffixOf_iff_suffix,List.suffix_iff_eq_drop];constructor <;> exact fun h=>h.symm
 have:decide ((t.length:Int)<=(s.length:Int))=false:=by simp;omega
 rw[this];simp only[cond_false,Option.bind_some,Option.some.injEq]
 symm
 rw[Bool.eq_false_iff];intro hp;exact h (List.isSuffixOf_iff_suffix.1 hp).length_le
theorem dom_char(c:UInt8):((bif decide ((97:UInt8)<=c) then (bif decide (c<=122) then some true else (bif decide ((48:UInt8)<=c) then (bif decide (c<=57) then some true else (bif (c==45) then some true else some (c==46))) else (bif (c==45) then some true else some (c==46)))) else (bif decide ((48:UInt8)<=c) then (bif decide (c<=57) then some true else (bif (c==45) then some true else some (c==46))) else (bif (c==45) then some true else some (c==46)))):Option Bool)=some (wQa c):=by
 unfold wQa;cases decide ((97:UInt8)<=c) <;> cases decide (c<=122) <;> cases decide ((48:UInt8)<=c) <;> cases decide (c<=57) <;> cases (c==45) <;> rfl
theorem Kva(s:Str)(hs:s.length < 4294967281):qVa s=some (domP s):=by
 have hloop:iter (kWa s) 0=some ((zTa (fun _ c=>if !wQa c then some () else none) 0 s).elim (.inl ()) .inr):=by
  refine zKa s _ (Sum.inl ()) Sum.inr ?_ ?_
  .unfold kWa;rw[zEa];rfl
  intro i c hc;have hi:=zGa hc;unfold kWa;rw[zUa hc,zta hc];simp only[cond_true,Option.bind_some,ysa c 45 (by decide),ysa c 46 (by decide),jva 97 c (by decide),jwa 122 c (by decide),jva 48 c (by decide),jwa 57 c (by decide),dom_char];rw[show ((i:Int)+1)=((i+1:Nat):Int) by omega,Yfa _ (by omega)];cases wQa c <;> rfl
 unfold qVa domP;rw[hloop,y3a,Yia];by_cases hn:s=[]
 .subst hn;simp
 have h1:(s !=([]:Str))=true:=by simpa using hn
 rw[h1];simp only[cond_true];by_cases hl:s.length<=60
 .have h2:decide ((s.length:Int)<=60)=true:=by simp;omega
  rw[h2];have hall:s.any (fun c=> !wQa c)= !(s.all wQa):=by simp[List.not_all_eq_any_not]
  rw[hall];cases hg:s.all wQa with
  | false=>simp[hl]
  | true=>
   simp only[Bool.not_true,Bool.false_eq_true,if_false,Option.elim,Option.bind_some,cond_true,Zpa,Zqa s [46] (by omega),kAa,if_pos hs];have hp:([46]:Str).isPrefixOf s=(s.head? ==some 46):=by
    cases s with
    | nil=>rfl
    | cons d r=>simp only[List.isPrefixOf,List.head?_cons,Bool.and_true];rw[Bool.eq_iff_iff];simp;exact ⟨fun h=>h.symm,fun h=>h.symm⟩
   have hsf:([46]:Str).isSuffixOf s=(s.getLast? ==some 46):=by
    rw[Bool.eq_iff_iff,List.isSuffixOf_iff_suffix,beq_iff_eq];constructor
    .rintro ⟨t,rfl⟩;simp
    intro h;obtain ⟨ys,rfl⟩:=List.getLast?_eq_some_iff.1 h;exact ⟨ys,rfl⟩
   have he:s.isEmpty=false:=by simpa using hn
   rw[hp,hsf,he];cases s.head? ==some 46 <;> cases s.getLast? ==some 46 <;> cases Lib.contains s [46,46] <;> simp[hl]
 have h2:decide ((s.length:Int)<=60)=false:=by simp;omega
 rw[h2];simp[hl]
theorem Yja(s:Str):Lib.index s [64]=if atP s < s.length then (atP s:Int) else -1:=by
 rw[Lib.index_one];unfold atP;induction s with
 | nil=>rfl
 | cons c r ih=>
  rw[Lib.indexByte,List.findIdx_cons];cases hc:(c==64) with
  | true=>simp
  | false=>
   simp only[Bool.false_eq_true,if_false,cond_false,List.length_cons];rw[ih];by_cases h:r.findIdx (· ==64) < r.length
   .simp only[if_pos h,if_pos (show r.findIdx (· ==64)+1 < r.length+1 by omega)];have:(((r.findIdx (· ==64):Nat):Int)== -1)=false:=by rw[beq_eq_false_iff_ne];omega
    rw[this];simp
   simp only[if_neg h,if_neg (show ¬(r.findIdx (· ==64)+1 < r.length+1) by omega)];simp
theorem cut_at(s:Str):Lib.cut s [64]=if atP s < s.length then (s.take (atP s),s.drop (atP s+1),true) else (s,[],false):=by
 unfold Lib.cut;rw[Yja];by_cases h:atP s < s.length
 .rw[if_pos h,if_pos h,if_pos (by omega)];simp
 rw[if_neg h,if_neg h,if_neg (by omega)]
def Wva(s:Str):Str × Str × Bool:=if atP s < s.length then (s.take (atP s),s.drop (atP s+1),K3a s) else (s,[],false)
theorem qNb(c:UInt8):(Voa c || decide (0<=Lib.indexByte [45,95,46,43,61] c))=Qza c:=by
 unfold Qza;by_cases h1:c=45
 .subst h1;decide
 by_cases h2:c=95
 .subst h2;decide
 by_cases h3:c=46
 .subst h3;decide
 by_cases h4:c=43
 .subst h4;decide
 by_cases h5:c=61
 .subst h5;decide
 rw[beq_eq_false_iff_ne.2 h1,beq_eq_false_iff_ne.2 h2,beq_eq_false_iff_ne.2 h3,beq_eq_false_iff_ne.2 h4,beq_eq_false_iff_ne.2 h5];simp[Lib.indexByte,Ne.symm h1,Ne.symm h2,Ne.symm h3,Ne.symm h4,Ne.symm h5]
theorem y4a(s:Str)(hs:s.length < 4294967281):qJa s=some (Wva s):=by
 have hloop:∀v:Str × Str × Bool,v.1.length < 4294967281->iter (qja v) 0=some ((zTa (fun _ c=>if !Qza c then some () else none) 0 v.1).elim (.inl ()) .inr):=by
  intro v hv;refine zKa v.1 _ (Sum.inl ()) Sum.inr ?_ ?_
  .unfold qja;rw[zEa];rfl
  intro i c hc;have hi:=zGa hc;unfold qja;rw[zUa hc,zta hc];simp only[cond_true,Option.bind_some,jZa,zXa];rw[show ((i:Int)+1)=((i+1:Nat):Int) by omega,Yfa _ (by omega)];have hg:=qNb c;cases hl:Voa c with
  | true=>rw[hl]at hg;simp only[Bool.true_or]at hg;rw[<-hg];rfl
  | false=>rw[hl]at hg;simp only[Bool.false_or]at hg;rw[<-hg];cases decide (0<=Lib.indexByte [45,95,46,43,61] c) <;> rfl
 unfold qJa vFa;rw[if_pos hs,cut_at];simp only[Option.bind_some];unfold Wva;by_cases h:atP s < s.length
 .simp only[if_pos h,cond_true];rw[hloop _ (by simp;omega),y3a];have hall:(s.take (atP s)).any (fun c=> !Qza c)= !((s.take (atP s)).all Qza):=by simp[List.not_all_eq_any_not]
  simp only[hall];have hlen:(s.take (atP s)).length=atP s:=by simp;omega
  rw[hlen,Kva _ (by simp;omega)];unfold K3a;by_cases h0:atP s=0
  .simp[h0]
  have hne:(s.take (atP s) !=([]:Str))=true:=by
   simp only[bne_iff_ne,ne_eq];intro hx;have:=congrArg List.length hx;rw[hlen]at this;simp at this;omega
  rw[hne];by_cases h60:atP s<=60
  .have e:decide ((atP s:Int)<=60)=true:=by simp;omega
   rw[e];cases (s.take (atP s)).all Qza <;> simp[h,h60] <;> omega
  have e:decide ((atP s:Int)<=60)=false:=by simp;omega
  rw[e];simp[h60]
 simp[if_neg h]
theorem J7a(s:Str):(Wva s).2.2=K3a s:=by
 unfold Wva;by_cases h:atP s < s.length
 .rw[if_pos h]
 rw[if_neg h];unfold K3a;simp[h]
theorem yja(s:Str)(hs:s.length < 4294967281):kRa s=some (K3a s):=by
 unfold kRa;rw[y4a s hs];simp[J7a]
section
theorem qOb{α:Type}(c:α->Bool)(l:List α):∀n:Nat,decide ((0:Int)<=(zTa (fun i x=>if c x then some ((i:Nat):Int) else none) n l).getD (-1))=l.any c:=by
 induction l with
 | nil=>intro n;rfl
 | cons x l ih=>
  intro n;unfold zTa;cases hc:c x with
  | true=>simp[hc]
  | false=>simp only[Bool.false_eq_true,if_false,List.any_cons,hc,Bool.false_or];exact ih (n+1)
theorem Kwa(o:Option Int):Sum.elim (fun _=>some (-1)) (fun b=>some b) (o.elim (Sum.inl ()) Sum.inr:Unit ⊕ Int)=some (o.getD (-1)):=by cases o <;> rfl
theorem sc(i:Nat)(h:i < 9223372036854775807):w64 ((i:Int)+1)=((i+1:Nat):Int):=by rw[show ((i:Int)+1)=((i+1:Nat):Int) by omega,Yfa _ (by omega)]
theorem bkL_pos{T:Type}(bk:T->Nat)(l:List T):1<=bkL bk l:=by
 induction l with
 | nil=>simp[bkL]
 | cons y l ih=>unfold bkL;omega
theorem Yka{T:Type}{bk:T->Nat}{l:List T}{x:T}(h:x∈l):bk x+1<=bkL bk l:=by
 induction l with
 | nil=>cases h
 | cons y l ih=>
  unfold bkL;have hp:=bkL_pos bk l;rcases List.mem_cons.1 h with rfl | h
  .omega
  have:=ih h;omega
theorem Vqa{T:Type}{bk:T->Nat}(hb:∀x,1<=bk x)(l:List T):l.length+1<=bkL bk l:=by
 induction l with
 | nil=>simp[bkL]
 | cons y l ih=>unfold bkL;have:=hb y;simp;omega
section
variable {α:Type}
end
theorem kxb{V:Type}(m:List (Str × V))(k:Str)(v:V)(x:Str):mget (mput m k v) x=if k==x then some v else mget m x:=by
 induction m with
 | nil=>rfl
 | cons p m ih=>
  obtain ⟨k',v'⟩:=p;unfold mput;by_cases h:k' =k
  .subst h;simp only[beq_self_eq_true,if_true,mget];cases k' ==x <;> simp
  have h1:(k' ==k)=false:=by simpa using h
  rw[h1];simp only[Bool.false_eq_true,if_false,mget];rw[ih];by_cases h2:k' =x
  .subst h2;have:(k==k')=false:=by simpa using fun h' =>h h'.symm
   simp[this]
  have:(k' ==x)=false:=by simpa using h2
  rw[this];simp
section
variable {α A S O:Type}
end
end
theorem ZGa(o:Option Unit)(a b:Bool):Sum.elim (fun _=>some a) (fun _=>some b) (o.elim (Sum.inl ()) Sum.inr:Unit ⊕ Unit)=some (bif o.isSome then b else a):=by cases o <;> rfl
theorem jma{α R:Type}(c:α->Bool)(r:R)(l:List α)(n:Nat):(zTa (fun _ x=>if c x then some r else none) n l).isSome=l.any c:=by
 rw[y3a];cases l.any c <;> rfl
theorem Yla{α:Type}(l:List α)(p:α->Bool):l.any (fun x=> !p x)= !l.all p:=by simp[List.not_all_eq_any_not]
theorem jna(a b:Int):R_At a b=some ⟨a,b⟩:=rfl
theorem zOa(a b:Int):zna a b=some ⟨a,b⟩:=rfl
theorem kwa:kia=some ⟨0,0⟩:=rfl
theorem kga(f:zpa):z5a f=some (f.Code !=0):=rfl
theorem K4a(o:Option zpa)(f:zpa):Sum.elim (fun _=>some f) (fun b=>some b) (o.elim (Sum.inl ()) Sum.inr:Unit ⊕ zpa)=some (o.getD f):=by cases o <;> rfl
def J8a(c:UInt8):Bool:=Voa c || c==45 || c==95 || c==46
def J9a(s:Str):Bool:=decide (1<=s.length) && decide (s.length<=60) && s.all J8a
theorem zab(s:Str)(hs:s.length<=1048576):Kna s=some (J9a s):=by
 unfold Kna;rw[zKa s (fun _ c=>if !J8a c then some false else none) (.inl ()) .inr,y3a,Yla]
 .simp only[Option.bind_some,wha];unfold J9a;have e1:decide ((1:Int)<=(s.length:Int))=decide (1<=s.length):=by rw[Bool.eq_iff_iff];simp;omega
  have e2:decide ((s.length:Int)<=60)=decide (s.length<=60):=by rw[Bool.eq_iff_iff];simp;omega
  rw[<-e1,<-e2];cases s.all J8a <;> simp
 .unfold jha;rw[zEa];rfl
 intro i c hc;have hi:=zGa hc;unfold jha;rw[zUa hc,zta hc];simp only[cond_true,Option.bind_some,yAa,Vka c 45 (by decide),Vka c 95 (by decide),Vka c 46 (by decide),sc i (by omega)];unfold J8a bne;cases Voa c <;> cases (c==45) <;> cases (c==95) <;> cases (c==46) <;> rfl
theorem Yma(s:Str)(hs:s.length<=1048576):yTa s=some (J9a s):=by
 have hloop:iter (vYa s) 0=some ((zTa (fun _ c=>if !J8a c then some () else none) 0 s).elim (.inl ()) .inr):=by
  refine zKa s _ (Sum.inl ()) Sum.inr ?_ ?_
  .unfold vYa;rw[zEa];rfl
  intro i c hc;have hi:=zGa hc;unfold vYa;rw[zUa hc,zta hc];simp only[cond_true,Option.bind_some,jZa,ysa c 45 (by decide),ysa c 95 (by decide),ysa c 46 (by decide),sc i (by omega)];unfold J8a;cases Voa c <;> cases (c==45) <;> cases (c==95) <;> cases (c==46) <;> rfl
 unfold yTa J9a;rw[hloop];simp only[Option.bind_some,ZGa,jma,Yla];by_cases hn:s=[]
 .subst hn;rfl
 have h1:(s !=([]:Str))=true:=by simpa using hn
 have h2:decide (1<=s.length)=true:=by have:=List.length_pos_iff.2 hn;simp;omega
 have e2:decide ((s.length:Int)<=60)=decide (s.length<=60):=by rw[Bool.eq_iff_iff];simp;omega
 rw[h1,h2,e2];cases decide (s.length<=60) <;> cases s.all J8a <;> rfl
def qPb(n:Int):Bool:=decide (0<=n) && decide (n<=7)
def recQ(l:List zca)(i:Nat)(r:zca):Option zpa:=
 if !K3a r.Address then some ⟨10,i⟩ else if !qPb r.Notify then some ⟨3,i⟩ else if (l.take i).any (fun x=>x.Address==r.Address) then some ⟨7,i⟩ else none
def recF(l:List zca):zpa:=(zTa (recQ l) 0 l).getD ⟨0,0⟩
def fromB(s:Str):Bool:=s !=([]:Str) && !K3a s
def envF(e:zwa):zpa:=if fromB e.From then ⟨10, -10⟩ else if decide (e.To.length < 1) || decide (60 < e.To.length) then ⟨2, -11⟩ else if e.Id !=([]:Str) && !J9a e.Id then ⟨10, -12⟩ else recF e.To
def smallR(l:List zca):Prop:=l.length<=1048576/\∀a∈l,a.Address.length<=1048576
def Wwa(e:zwa):Prop:=e.From.length<=1048576/\e.Id.length<=1048576/\smallR e.To
theorem kyb(l:List zca)(s:Str)(hl:l.length<=1048576):Vja l s=some ((zTa (fun i x=>if x.Address==s then some ((i:Nat):Int) else none) 0 l).getD (-1)):=by
 unfold Vja;rw[zKa l (fun i x=>if x.Address==s then some ((i:Nat):Int) else none) (.inl ()) .inr]
 .simp only[Option.bind_some,Kwa]
 .unfold Zma;rw[zEa];rfl
 intro i x hx;have hi:=zGa hx;unfold Zma;rw[zUa hx,zta hx];simp only[cond_true,Option.bind_some,sc i (by omega)];cases x.Address==s <;> rfl
theorem Kxa(n:Int):qXa n=some (qPb n):=by unfold qXa qPb;cases decide (0<=n) <;> rfl
theorem zIb(l:List zca)(i:Nat)(s:Str)(hl:l.length<=1048576):decide ((0:Int)<=(zTa (fun i x=>if x.Address==s then some ((i:Nat):Int) else none) 0 (l.take i)).getD (-1))=(l.take i).any (fun x=>x.Address==s):=qOb (fun x=>x.Address==s) (l.take i) 0
theorem Kya(e:zwa)(h:Wwa e):qWa e=some (envF e):=by
 obtain ⟨h1,h2,h3,h4⟩:=h;unfold qWa envF;rw[ZFa _ (by omega),zab _ h2];have hloop:iter (kXa e) 0=some ((zTa (recQ e.To) 0 e.To).elim (.inl ()) .inr):=by
  refine zKa e.To _ (Sum.inl ()) Sum.inr ?_ ?_
  .unfold kXa;rw[zEa];rfl
  intro i r hr;have hi:=zGa hr;have ha:=h4 r (List.mem_of_getElem? hr);unfold kXa recQ;rw[zUa hr,zta hr];simp only[cond_true,Option.bind_some,ZFa _ (show r.Address.length<=9223372036854775806 by omega),jna,wha,Vna (Nat.le_of_lt hi),kyb _ _ (show (e.To.take i).length<=1048576 by simp;omega),zIb _ _ _ h3,sc i (by omega)];unfold qPb;cases K3a r.Address <;> cases (decide (0<=r.Notify) && decide (r.Notify<=7)) <;> cases (e.To.take i).any (fun x=>x.Address==r.Address) <;> rfl
 rw[hloop];simp only[Option.bind_some,K4a,wha,jna];have e1:(!(decide ((1:Int)<=(e.To.length:Int)) && decide ((e.To.length:Int)<=60)))=(decide (e.To.length < 1) || decide (60 < e.To.length)):=by generalize e.To.length=n;rw[Bool.eq_iff_iff];simp;omega
 rw[e1];unfold fromB recF;cases e.From !=([]:Str) <;> cases K3a e.From <;> cases (decide (e.To.length < 1) || decide (60 < e.To.length)) <;> cases e.Id !=([]:Str) <;> cases J9a e.Id <;> rfl
theorem jEa(l:List zca)(h:smallR l):kKa l=some (recF l):=by
 obtain ⟨h3,h4⟩:=h;unfold kKa recF;rw[zKa l (recQ l) (.inl ()) .inr]
 .simp only[Option.bind_some,kwa,K4a]
 .unfold kMa;rw[zEa];rfl
 intro i r hr;have hi:=zGa hr;have ha:=h4 r (List.mem_of_getElem? hr);have hl2:iter (kra r (l.take i)) 0=some ((zTa (fun i x=>if x.Address==r.Address then some ((i:Nat):Int) else none) 0 (l.take i)).elim (.inl ()) .inr):=by
  refine zKa (l.take i) _ (Sum.inl ()) Sum.inr ?_ ?_
  .unfold kra;rw[zEa];rfl
  intro k x hx;have hk:=zGa hx;simp at hk;unfold kra;rw[zUa hx,zta hx];simp only[cond_true,Option.bind_some,sc k (by omega)];cases x.Address==r.Address <;> rfl
 unfold kMa recQ;rw[zUa hr,zta hr];simp only[cond_true,Option.bind_some,yja _ (show r.Address.length < 4294967281 by omega),zOa,Kxa,Vna (Nat.le_of_lt hi),hl2,Kwa,zIb _ _ _ h3,sc i (by omega)];cases K3a r.Address <;> cases qPb r.Notify <;> cases (l.take i).any (fun x=>x.Address==r.Address) <;> rfl
theorem Zra(e:zwa)(h:Wwa e):qka e=some (envF e):=by
 obtain ⟨h1,h2,h3⟩:=h;unfold qka envF;rw[yja _ (by omega),Yma _ h2,jEa _ h3];have e1:decide ((e.To.length:Int) < 1)=decide (e.To.length < 1):=by generalize e.To.length=n;rw[Bool.eq_iff_iff];simp;omega
 have e2:decide ((60:Int) < (e.To.length:Int))=decide (60 < e.To.length):=by rw[Bool.eq_iff_iff];simp;omega
 simp only[Option.bind_some,zOa,e1,e2];unfold fromB;cases e.From !=([]:Str) <;> cases K3a e.From <;> cases decide (e.To.length < 1) <;> cases decide (60 < e.To.length) <;> cases e.Id !=([]:Str) <;> cases J9a e.Id <;> rfl
theorem qQb{e:zwa}(h:zwa.bk e<=1048576):Wwa e:=by
 unfold zwa.bk at h;dsimp only at h;refine ⟨by omega,by omega,?_,fun a ha=>?_⟩
 .have:=Vqa (bk:=zca.bk) (fun x=>by unfold zca.bk;omega) e.To;omega
 have h5:=Yka (bk:=zca.bk) ha;have h6:zca.bk a=a.Address.length+1+1+1:=rfl;omega
theorem Yna(s:Str)(i:Nat)(h:i < s.length):(strB s)[i]'(by rw[kca];exact h)=s[i]:=rfl
theorem qRb(s:Str)(i:Nat)(h:i < s.length):(strB s).get! i=s[i]:=by
 have:=get_at (strB s) i (by rw[kca];exact h);rw[Nat.add_zero]at this;rw[this];rfl
theorem Wxa{s:Str}{i:Nat}{c:UInt8}(h:s[i]? =some c)(hc:c.toNat < 128):Zza s i=(c.toNat:Int)/\yQa s i=1:=by
 have hi:=zGa h;have e:s[i]=c:=by rw[List.getElem?_eq_getElem hi]at h;exact Option.some.inj h
 have hd:=decode_ascii (strB s) i (by rw[kca];exact hi) (by rw[Yna s i hi,e];exact hc);unfold Zza yQa;rw[hd,Yna s i hi,e];exact ⟨rfl,rfl⟩
theorem qSb{s:Str}{i:Nat}{c:UInt8}(h:s[i]? =some c)(hc:128<=c.toNat):128<=Zza s i/\Zza s i<=2147483647/\1<=yQa s i:=by
 have hi:=zGa h;have e:s[i]=c:=by rw[List.getElem?_eq_getElem hi]at h;exact Option.some.inj h
 have hd:=decode_high (strB s) i (by rw[kca];exact hi) (by rw[Yna s i hi,e];exact hc);have hl:=decode_le (strB s) i;unfold Zza yQa;exact ⟨by omega,by omega,hd.2⟩
theorem zbb(s:ByteArray)(pos:Nat):∀k,1<=k->k < (Utf8.decode s pos).2->(s.get! (pos+k)).toNat / 64=2:=by
 intro k h1 h2;simp only[Utf8.decode]at h2;repeat' split at h2
 all_goals first
  | (exfalso;simp at h2;omega)
  | (
   rename_i hq _;simp only[Bool.and_eq_true,decide_eq_true_eq,beq_iff_eq]at hq;have h2:k < 2:=h2;obtain rfl:k=1:=by omega
   exact hq.2.2)
  | (
   rename_i hq _;simp only[Bool.and_eq_true,decide_eq_true_eq,beq_iff_eq]at hq;have h2:k < 3:=h2;have:k=1∨k=2:=by omega
   rcases this with rfl | rfl
   .exact hq.1.2.2
   exact hq.2.2)
  | (
   rename_i hq _;simp only[Bool.and_eq_true,decide_eq_true_eq,beq_iff_eq]at hq;have h2:k < 4:=h2;have:k=1∨k=2∨k=3:=by omega
   rcases this with rfl | rfl | rfl
   .exact hq.1.1.2.2
   .exact hq.1.2.2
   exact hq.2.2)
theorem qTb{s:Str}{i j:Nat}{c d:UInt8}(h:s[i]? =some c)(hc:128<=c.toNat)(h1:i<=j)(h2:j < i+yQa s i)(hj:s[j]? =some d):128<=d.toNat:=by
 by_cases e:j=i
 .subst e;rw[h]at hj;cases hj;exact hc
 have hjl:=zGa hj;have e2:s[j]=d:=by rw[List.getElem?_eq_getElem hjl]at hj;exact Option.some.inj hj
 have:=zbb (strB s) i (j - i) (by omega) (by unfold yQa at h2;omega);rw[show i+(j - i)=j by omega,qRb s j hjl,e2]at this;omega
theorem toU8_nat(c:UInt8):toU8 (c.toNat:Int)=c:=by
 unfold toU8;have:=c.toNat_lt;rw[show ((c.toNat:Int) % 256).toNat=c.toNat by omega];simp
theorem Wya{t:Str}(h:Wra t=true){c:UInt8}(hc:c∈t):c.toNat < 128:=by
 unfold Wra at h;rw[List.all_eq_true]at h;simpa using h c hc
theorem kzb{r:Int}(h:128<=r):∃m x,1<=m/\m<=3/\(wta r).length=m+1/\(wta r)[m]? =some x/\128<=x.toNat:=by
 unfold wta;simp only[Utf8.encode];have hc:128<=(if Utf8.valid r=true then r.toNat else Utf8.runeError):=by
  split
  .omega
  decide
 generalize (if Utf8.valid r=true then r.toNat else Utf8.runeError)=c at hc;have hb:∀n:Nat,128<=(UInt8.ofNat (128+n % 64)).toNat:=by
  intro n;rw[UInt8.toNat_ofNat'];have:(128+n % 64) % 2 ^ 8=128+n % 64:=Nat.mod_eq_of_lt (by omega);rw[this];omega
 rw[if_neg (by omega)];split
 .exact ⟨1,_,by omega,by omega,rfl,rfl,hb c⟩
 split
 .exact ⟨2,_,by omega,by omega,rfl,rfl,hb c⟩
 exact ⟨3,_,by omega,by omega,rfl,rfl,hb c⟩
theorem VYa{t:Str}(h:∀c∈t,c.toNat < 128){x:UInt8}(hx:128<=x.toNat):Lib.indexByte t x= -1:=by
 have hc:=Lib.contains_iff_indexByte t x;have hn:t.contains x=false:=by
  rw[Bool.eq_false_iff];intro hm;have:=h x (by simpa using hm);omega
 rw[hn]at hc;have hge:=Lib.indexByte_ge t x;have:=of_decide_eq_false hc.symm;omega
theorem Vra(t:Str)(c:UInt8)(hc:c.toNat < 128):kda t (c.toNat:Int)=some (Lib.indexByte t c):=by
 unfold kda;have h1:decide ((0:Int)<=(c.toNat:Int))=true:=by simp
 have h2:decide ((c.toNat:Int) < 128)=true:=by simp;omega
 rw[h1,h2];simp only[cond_true,Option.bind_some,toU8_nat];rfl
theorem VZa(t:Str)(r:Int)(hr:128<=r)(ht:∀c∈t,c.toNat < 128)(hl:t.length<=4294967281):kda t r=some (-1):=by
 unfold kda;have h1:decide ((0:Int)<=r)=true:=by simp;omega
 have h2:decide (r < 128)=false:=by simp;omega
 rw[h1,h2];simp only[cond_true,cond_false,Option.bind_some];cases hq:r==65533 with
 | true=>
  simp only[cond_true];obtain ⟨o,ho,rfl⟩:=Yga (body:=k9a t) (fun i=>i<=t.length) (fun i=>t.length - i) (fun _ o=>o=.inl ()) (fun i hi=>by
   unfold k9a;by_cases hlt:i < t.length
   .right;have hg:t[i]? =some t[i]:=List.getElem?_eq_getElem hlt;have hc:=ht t[i] (List.getElem_mem hlt);obtain ⟨e1,e2⟩:=Wxa hg hc;rw[e1,e2,decide_eq_true hlt];have hne:((t[i].toNat:Int)==65533)=false:=by rw[beq_eq_false_iff_ne];omega
    rw[hne];exact ⟨i+1,rfl,by omega,by omega,fun _ h=>h⟩
   left;rw[decide_eq_false hlt];exact ⟨.inl (),rfl,rfl⟩) 0 (Nat.zero_le _)
  rw[ho];rfl
 | false=>
  simp only[cond_false];have hv:∃b,kqa r=some b:=by
   unfold kqa;cases decide (0<=r) <;> cases decide (r < 55296) <;> cases decide (57343 < r) <;> cases decide (r<=1114111) <;> exact ⟨_,rfl⟩
  obtain ⟨b,hb⟩:=hv;rw[hb];simp only[Option.bind_some];cases b with
  | false=>rfl
  | true=>
   simp only[Bool.not_true,cond_false];obtain ⟨m,x,hm1,hm3,hlen,hx,hx128⟩:=kzb hr;have hst:w64 (((wta r).length:Int) - 1)=(m:Int):=by rw[hlen,vja (by omega) (by omega)];omega
   rw[hst];have hbody:∃o,qba t r (m:Int)=some (.out o)/\(o=.inl ()∨o=.inr (-1)):=by
    unfold qba;by_cases hlt:m < t.length
    .have hd:decide ((m:Int) < (t.length:Int))=true:=by simp;omega
     have hc:=ht t[m] (List.getElem_mem hlt);rw[hd,hst,Wta hlt,zta hx];have hne:((t[m].toNat:Int) !=(x.toNat:Int))=true:=by simp;omega
     simp only[cond_true,Option.bind_some,hne];rw[show (m:Int)+1=((m+1:Nat):Int) by omega,Yfa _ (by omega),Vma (by omega)];simp only[Option.bind_some];have hib:zXa (t.drop (m+1)) x=some (-1):=by
      show some (Lib.indexByte (t.drop (m+1)) x)=_;rw[VYa (fun c hc=>ht c (List.mem_of_mem_drop hc)) hx128]
     rw[hib];exact ⟨.inr (-1),rfl,.inr rfl⟩
    have hd:decide ((m:Int) < (t.length:Int))=false:=by simp;omega
    rw[hd];exact ⟨.inl (),rfl,.inl rfl⟩
   obtain ⟨o,ho,ho2⟩:=hbody;rw[zIa ho];rcases ho2 with rfl | rfl <;> rfl
theorem Jca(s t:Str)(h8:s.length<=8)(h2:2<=t.length)(hl:t.length < 4294967281)(ht:Wra t=true):vaa s t=some (Lib.indexAny s t):=by
 have htc:∀c∈t,c.toNat < 128:=fun c hc=>Wya ht hc
 unfold vaa;have e1:(t==([]:Str))=false:=by rw[beq_eq_false_iff_ne];rintro rfl;simp at h2
 have e2:((t.length:Int)==1)=false:=by rw[beq_eq_false_iff_ne];omega
 have e3:zNa (s.length:Int)=some false:=by unfold zNa;simp;omega
 rw[e1,e2,e3];simp only[cond_false,Option.bind_some];obtain ⟨o,ho,ho2⟩:=Yga (body:=qca s t) (fun i=>Lib.NoAny s t i) (fun i=>s.length - i) (fun _ o=>Sum.elim (fun _=>some (-1)) (fun b=>some b) o=some (Lib.indexAny s t)) (fun i hi=>by
  unfold qca;by_cases hlt:i < s.length
  .have hg:s[i]? =some s[i]:=List.getElem?_eq_getElem hlt;rw[decide_eq_true hlt];simp only[cond_true];by_cases hc:s[i].toNat < 128
   .obtain ⟨q1,q2⟩:=Wxa hg hc;rw[q1,q2,Vra t _ hc];simp only[Option.bind_some];have hcon:=Lib.contains_iff_indexByte t s[i];rw[<-hcon];cases hin:t.contains s[i] with
    | true=>
     left;exact ⟨.inr (i:Int),rfl,by rw[Lib.indexAny_hit hi hg hin];rfl⟩
    | false=>
     right;exact ⟨i+1,rfl,hi.succ hg hin,by omega,fun _ h=>h⟩
   have hc:128<=s[i].toNat:=by omega
   obtain ⟨q1,q2,q3⟩:=qSb hg hc;rw[VZa t _ q1 htc (by omega)];right;refine ⟨i+yQa s i,rfl,fun j b hj hb=>?_,by omega,fun _ h=>h⟩;by_cases hji:j < i
   .exact hi j b hji hb
   have:=qTb hg hc (by omega) hj hb;rw[Bool.eq_false_iff];intro hm;have:=htc b (by simpa using hm);omega
  left;rw[decide_eq_false hlt];refine ⟨.inl (),rfl,?_⟩;have hn:Lib.NoAny s t s.length:=fun j b hj hb=>hi j b (by omega) hb
  rw[Lib.indexAny_none hn];rfl) 0 (Lib.NoAny.zero s t)
 rw[ho];exact ho2
theorem Jda(t:Str):∀s:Str,decide (0<=Lib.indexAny s t)=s.any fun c=>t.contains c:=by
 intro s;induction s with
 | nil=>rfl
 | cons c s ih=>
  have hge:=Lib.indexAny_ge t s;rw[List.any_cons,<-ih,Lib.indexAny];cases t.contains c with
  | true=>simp
  | false=>
   simp only[Bool.false_eq_true,if_false,Bool.false_or];by_cases h:Lib.indexAny s t= -1
   .simp[h]
   have:(Lib.indexAny s t== -1)=false:=by simpa using h
   rw[this];simp only[Bool.false_eq_true,if_false];rw[Bool.eq_iff_iff];simp;omega
theorem jFa(s t:Str)(hs:s.length<=1048576)(h2:2<=t.length)(hl:t.length<=1048576)(ht:Wra t=true):kba s t=some (s.any fun c=>t.contains c):=by
 unfold kba kQa;rw[if_pos ⟨by omega,by omega,h2,ht⟩];simp only[Option.bind_some,Jda]
def wRa(c:UInt8):Bool:=c==32 || c==9
theorem Wza(c:UInt8):v1a c=some (wRa c):=by
 unfold v1a wRa;rw[ysa c 32 (by decide),ysa c 9 (by decide)];cases c==32 <;> rfl
theorem ZHa(c:UInt8):qYa c=some (wRa c):=by
 unfold qYa wRa;rw[ysa c 32 (by decide),ysa c 9 (by decide)];cases c==32 <;> rfl
def fnC(c:UInt8):Bool:=decide (33<=c) && decide (c<=126) && c !=58
def fnP(s:Str):Bool:=s !=([]:Str) && decide (s.length<=60) && s.all fnC
theorem dec60(s:Str):decide ((s.length:Int)<=60)=decide (s.length<=60):=by generalize s.length=n;rw[Bool.eq_iff_iff];simp;omega
theorem Jea(s:Str)(hs:s.length<=1048576):jWa s=some (fnP s):=by
 have hloop:iter (wza s) 0=some ((zTa (fun _ c=>if !fnC c then some () else none) 0 s).elim (.inl ()) .inr):=by
  refine zKa s _ (Sum.inl ()) Sum.inr ?_ ?_
  .unfold wza;rw[zEa];rfl
  intro i c hc;have hi:=zGa hc;unfold wza;rw[zUa hc,zta hc];simp only[cond_true,Option.bind_some,Vka c 58 (by decide),jva 33 c (by decide),jwa 126 c (by decide),sc i (by omega)];unfold fnC;cases decide ((33:UInt8)<=c) <;> cases decide (c<=126) <;> cases c !=58 <;> rfl
 unfold jWa fnP;rw[hloop];simp only[Option.bind_some,ZGa,jma,Yla,dec60];cases s !=([]:Str) <;> cases decide (s.length<=60) <;> cases s.all fnC <;> rfl
def endC(c:UInt8):Bool:=c==13 || c==10 || c==0
theorem Jfa(s:Str)(hs:s.length<=1048576):jXa s=some (s.any endC):=by
 unfold jXa;rw[jFa s _ hs (by decide) (by decide) (by decide)];simp only[Option.bind_some,Option.some.injEq]
 congr 1
 funext c;rw[Bool.eq_iff_iff];simp[endC,or_assoc]
def qUb(s:Str):Bool:=match s.head?,s.getLast? with | some a,some b=>wRa a || wRa b | _,_=>false
def valP(s:Str):Bool:= !(s.any endC) && !(qUb s)
theorem zJb(s:Str)(h:s≠ [])(hs:s.length<=1048576):∃a b,idx s 0=some a/\idx s (w64 ((s.length:Int) - 1))=some b/\s.head? =some a/\s.getLast? =some b:=by
 have hpos:=List.length_pos_iff.2 h;obtain ⟨a,r,rfl⟩:=List.exists_cons_of_ne_nil h;have e:w64 (((a::r).length:Int) - 1)=((r.length:Nat):Int):=by
  have hl:(a::r).length=r.length+1:=rfl;rw[vja (by omega) (by omega)];omega
 refine ⟨a,(a::r).getLast h,rfl,?_,rfl,List.getLast?_eq_some_getLast h⟩;rw[e,Vla,List.getLast_eq_getElem h,List.getElem?_eq_getElem (by simp)]
 congr 2
theorem Yoa(s:Str)(hs:s.length<=1048576):yUa s=some (valP s):=by
 unfold yUa valP;rw[Jfa s hs];simp only[Option.bind_some];by_cases hn:s=[]
 .subst hn;rfl
 obtain ⟨a,b,h1,h2,h3,h4⟩:=zJb s hn hs;have e:(s==([]:Str))=false:=by simpa using hn
 unfold qUb;rw[h1,h2,h3,h4,e];simp only[Option.bind_some,ZHa,cond_false];cases s.any endC <;> cases wRa a <;> cases wRa b <;> rfl
def br(t:Str)(f i:Nat):Bool:=decide (1<=i) && decide (f<=i) && (match t[i]?,t[i - 1]? with | some a,some b=>wRa a && !wRa b | _,_=>false)
def K5a(t:Str)(f:Nat):Nat->Nat
 | 0=>0
 | i+1=>if br t f (i+1) then i+1 else K5a t f i
def Ypa(t:Str)(f:Nat):Nat->Nat->Nat
 | 0,_=>0
 | n+1,i=>if br t f i then i else Ypa t f n (i+1)
def cutP(t:Str)(f:Nat):Nat:=if K5a t f 78=0 then Ypa t f (t.length - 79) 79 else K5a t f 78
def zcb(t:Str)(f c:Nat):Prop:=(c=0/\∀j,br t f j=false)∨(br t f c=true/\((c<=78/\∀j,c < j->j<=78->br t f j=false)∨(78 < c/\∀j,j < c->br t f j=false)))
theorem qVb(t:Str)(f:Nat):br t f 0=false:=rfl
theorem zdb{t:Str}{f i:Nat}(h:br t f i=true):i < t.length/\1<=i/\f<=i:=by
 unfold br at h;simp only[Bool.and_eq_true,decide_eq_true_eq]at h;obtain ⟨⟨h1,h2⟩,h3⟩:=h;refine ⟨?_,h1,h2⟩;cases hi:t[i]? with
 | none=>rw[hi]at h3;simp at h3
 | some a=>exact zGa hi
theorem Jga{t:Str}{f c d:Nat}(h:zcb t f c)(k:zcb t f d):c=d:=by
 rcases h with ⟨rfl,h⟩ | ⟨hc,h⟩ <;> rcases k with ⟨rfl,k⟩ | ⟨hd,k⟩
 .rfl
 .rw[h]at hd;cases hd
 .rw[k]at hc;cases hc
 rcases Nat.lt_trichotomy c d with hlt | heq | hgt
 .exfalso;rcases h with ⟨h1,h2⟩ | ⟨h1,h2⟩ <;> rcases k with ⟨k1,k2⟩ | ⟨k1,k2⟩
  .rw[h2 d hlt k1]at hd;cases hd
  .rw[k2 c hlt]at hc;cases hc
  .omega
  rw[k2 c hlt]at hc;cases hc
 .exact heq
 exfalso;rcases h with ⟨h1,h2⟩ | ⟨h1,h2⟩ <;> rcases k with ⟨k1,k2⟩ | ⟨k1,k2⟩
 .rw[k2 c hgt h1]at hc;cases hc
 .omega
 .rw[h2 d hgt]at hd;cases hd
 rw[h2 d hgt]at hd;cases hd
theorem kAb(t:Str)(f:Nat):∀n,(K5a t f n=0/\∀j,j<=n->br t f j=false)∨(br t f (K5a t f n)=true/\K5a t f n<=n/\∀j,K5a t f n < j->j<=n->br t f j=false):=by
 intro n;induction n with
 | zero=>left;exact ⟨rfl,fun j hj=>by
  obtain rfl:j=0:=by omega
  exact qVb t f⟩
 | succ n ih=>
  unfold K5a;by_cases h:br t f (n+1)=true
  .rw[if_pos h];right;exact ⟨h,Nat.le_refl _,fun j h1 h2=>by omega⟩
  rw[if_neg h];rcases ih with ⟨h1,h2⟩ | ⟨h1,h2,h3⟩
  .left;refine ⟨h1,fun j hj=>?_⟩;by_cases e:j=n+1
   .subst e;simpa using h
   exact h2 j (by omega)
  right;refine ⟨h1,by omega,fun j hj hjn=>?_⟩;by_cases e:j=n+1
  .subst e;simpa using h
  exact h3 j hj (by omega)
theorem kBb(t:Str)(f:Nat):∀n i,(Ypa t f n i=0/\∀j,i<=j->j < i+n->br t f j=false)∨(br t f (Ypa t f n i)=true/\i<=Ypa t f n i/\∀j,i<=j->j < Ypa t f n i->br t f j=false):=by
 intro n;induction n with
 | zero=>intro i;left;exact ⟨rfl,fun j h1 h2=>by omega⟩
 | succ n ih=>
  intro i;unfold Ypa;by_cases h:br t f i=true
  .rw[if_pos h];right;exact ⟨h,Nat.le_refl _,fun j h1 h2=>by omega⟩
  rw[if_neg h];have hb:br t f i=false:=by simpa using h
  rcases ih (i+1) with ⟨h1,h2⟩ | ⟨h1,h2,h3⟩
  .left;refine ⟨h1,fun j hj hjn=>?_⟩;by_cases e:j=i
   .subst e;exact hb
   exact h2 j (by omega) (by omega)
  right;refine ⟨h1,by omega,fun j hj hjn=>?_⟩;by_cases e:j=i
  .subst e;exact hb
  exact h3 j (by omega) hjn
theorem qWb(t:Str)(f:Nat):zcb t f (cutP t f):=by
 unfold cutP;rcases kAb t f 78 with ⟨h1,h2⟩ | ⟨h1,h2,h3⟩
 .rw[if_pos h1];rcases kBb t f (t.length - 79) 79 with ⟨k1,k2⟩ | ⟨k1,k2,k3⟩
  .left;refine ⟨k1,fun j=>?_⟩;by_cases hj:j<=78
   .exact h2 j hj
   cases hb:br t f j with
   | false=>rfl
   | true=>have:=(zdb hb).1;rw[k2 j (by omega) (by omega)]at hb;cases hb
  right;refine ⟨k1,.inr ⟨by omega,fun j hj=>?_⟩⟩;by_cases hj2:j<=78
  .exact h2 j hj2
  exact k3 j (by omega) hj
 have hne:K5a t f 78≠0:=by intro h;rw[h,qVb]at h1;cases h1
 rw[if_neg hne];exact .inr ⟨h1,.inl ⟨h2,h3⟩⟩
theorem Zna{t:Str}{f:Nat}(h:cutP t f≠0):1<=cutP t f/\cutP t f < t.length:=by
 rcases qWb t f with ⟨h1,_⟩ | ⟨h1,_⟩
 .exact absurd h1 h
 exact ⟨(zdb h1).2.1,(zdb h1).1⟩
theorem br_at{t:Str}{f i:Nat}(h1:1<=i)(hi:i < t.length):br t f i=(decide (f<=i) && (wRa t[i] && !wRa (t[i - 1]'(by omega)))):=by
 unfold br;rw[List.getElem?_eq_getElem hi,List.getElem?_eq_getElem (show i - 1 < t.length by omega)];simp[h1]
def PInv(t:Str)(f b i:Nat):Prop:=f<=i/\1<=i/\((b=0/\∀j,j < i->br t f j=false)∨(br t f b=true/\b < i/\((b<=78/\∀j,b < j->j < i->br t f j=false)∨(78 < b/\∀j,j < b->br t f j=false))))
theorem PInv.done{t:Str}{f b i:Nat}(h:PInv t f b i)(hi:0 < b/\78 < i∨t.length<=i):zcb t f b:=by
 obtain ⟨hf,h1,h2⟩:=h;rcases h2 with ⟨rfl,h3⟩ | ⟨h3,h4,h5⟩
 .left;refine ⟨rfl,fun j=>?_⟩;cases hb:br t f j with
  | false=>rfl
  | true=>
   have:=(zdb hb).1;rw[h3 j (by omega)]at hb;cases hb
 right;refine ⟨h3,?_⟩;rcases h5 with ⟨h6,h7⟩ | h6
 .left;refine ⟨h6,fun j hj hj2=>?_⟩;cases hb:br t f j with
  | false=>rfl
  | true=>
   have:=(zdb hb).1;rw[h7 j hj (by omega)]at hb;cases hb
 exact .inr h6
theorem Yqa(t:Str)(f:Nat)(ht:t.length<=4194304)(hf:f<=4194304):yVa t (f:Int)=some ((cutP t (max f 1):Nat):Int):=by
 unfold yVa;have hstart:max (f:Int) 1=((max f 1:Nat):Int):=by omega
 rw[hstart];obtain ⟨r,h1,b,rfl,h2⟩:=Yga (body:=wVa t) (fun s=>∃b i:Nat,s=((b:Int),(i:Int))/\PInv t (max f 1) b i/\i<=4194305) (fun s=>(4194306 - s.2).toNat) (fun _ r=>∃c:Nat,r=(c:Int)/\zcb t (max f 1) c) (by
  rintro _ ⟨b,i,rfl,hI,hil⟩;have hi1:=hI.2.1;unfold wVa;dsimp only;by_cases hlt:i < t.length
  .have hd:decide ((i:Int) < (t.length:Int))=true:=by simp;omega
   have hpre:w64 ((i:Int) - 1)=((i - 1:Nat):Int):=by rw[vja (by omega) (by omega)];omega
   rw[hd,Wta hlt,hpre,Wta (show i - 1 < t.length by omega)];have hb:=br_at (f:=max f 1) hi1 hlt;have hfi:decide (max f 1<=i)=true:=by simp only[decide_eq_true_eq];exact hI.1
   rw[hfi,Bool.true_and]at hb;simp only[cond_true,Option.bind_some,ZHa];have next:∀b' :Nat,PInv t (max f 1) b' (i+1)->qya ((b:Int),(i:Int)) (b' :Int)=some (.cont ((b' :Int),((i+1:Nat):Int))):=by
    intro b' _;unfold qya;dsimp only;rw[sc i (by omega)]
   have hno:br t (max f 1) i=false->PInv t (max f 1) b (i+1):=by
    intro hnb;refine ⟨by have:=hI.1;omega,by omega,?_⟩;rcases hI.2.2 with ⟨q1,q2⟩ | ⟨q1,q2,q3⟩
    .left;refine ⟨q1,fun j hj=>?_⟩;by_cases e:j=i
     .subst e;exact hnb
     exact q2 j (by omega)
    right;refine ⟨q1,by omega,?_⟩;rcases q3 with ⟨q4,q5⟩ | q4
    .left;refine ⟨q4,fun j hj hj2=>?_⟩;by_cases e:j=i
     .subst e;exact hnb
     exact q5 j hj (by omega)
    exact .inr q4
   have goNo:br t (max f 1) i=false->(∃s',qya ((b:Int),(i:Int)) (b:Int)=some (.cont s')/\(∃b i:Nat,s' =((b:Int),(i:Int))/\PInv t (max f 1) b i/\i<=4194305)/\(4194306 - s'.2).toNat < (4194306 - ((i:Int))).toNat/\∀r:Int,(∃c:Nat,r=(c:Int)/\zcb t (max f 1) c)->∃c:Nat,r=(c:Int)/\zcb t (max f 1) c):=by
    intro hnb;exact ⟨_,next b (hno hnb),⟨b,i+1,rfl,hno hnb,by omega⟩,by dsimp only;omega,fun _ h=>h⟩
   cases ha:wRa t[i] with
   | false=>
    rw[ha]at hb;simp only[Bool.not_false,cond_true,Option.bind_some];exact .inr (goNo hb)
   | true=>
    rw[ha]at hb;simp only[Bool.not_true,cond_false,Option.bind_some];cases hp:wRa t[i - 1] with
    | true=>
     rw[hp]at hb;simp only[cond_true];exact .inr (goNo hb)
    | false=>
     rw[hp]at hb;have hb:br t (max f 1) i=true:=hb;simp only[cond_false];by_cases hb0:0 < b/\78 < i
     .left;have e1:decide ((0:Int) < (b:Int))=true:=by simp;omega
      have e2:decide ((78:Int) < (i:Int))=true:=by simp;omega
      rw[e1,e2];exact ⟨(b:Int),rfl,b,rfl,hI.done (.inl hb0)⟩
     right;have e:(bif decide ((0:Int) < (b:Int)) then some (decide ((78:Int) < (i:Int))) else some false)=some false:=by
      by_cases h0:0 < b
      .have e1:decide ((0:Int) < (b:Int))=true:=by simp;omega
       have e2:decide ((78:Int) < (i:Int))=false:=by simp;omega
       rw[e1,e2];rfl
      have e1:decide ((0:Int) < (b:Int))=false:=by simp;omega
      rw[e1];rfl
     rw[e];simp only[Option.bind_some,cond_false];have hnew:PInv t (max f 1) i (i+1):=by
      refine ⟨by have:=hI.1;omega,by omega,.inr ⟨hb,by omega,?_⟩⟩;by_cases h78:i<=78
      .exact .inl ⟨h78,fun j h1 h2=>by omega⟩
      right;refine ⟨by omega,?_⟩;rcases hI.2.2 with ⟨q1,q2⟩ | ⟨q1,q2,q3⟩
      .exact q2
      exfalso;have:=(zdb q1).2.1;omega
     exact ⟨_,next i hnew,⟨i,i+1,rfl,hnew,by omega⟩,by dsimp only;omega,fun _ h=>h⟩
  left;have hd:decide ((i:Int) < (t.length:Int))=false:=by simp;omega
  rw[hd];exact ⟨(b:Int),rfl,b,rfl,hI.done (.inr (by omega))⟩) ((0:Int),((max f 1:Nat):Int)) ⟨0,max f 1,rfl,⟨Nat.le_refl _,by omega,.inl ⟨rfl,fun j hj=>by
  cases hb:br t (max f 1) j with
  | false=>rfl
  | true=>have:=(zdb hb).2.2;omega⟩⟩,by omega⟩
 rw[h1];simp only[Option.bind_some];rw[Jga h2 (qWb t (max f 1))]
theorem R_cut_eq(t:Str)(f:Nat)(out:List Str)(ht:t.length<=4194304)(h78:78 < t.length)(hf:f<=4194304)(h1f:1<=f):((iter (kza (t,(f:Int),out)) (0,78)).bind fun b10=>iter (kfa (t,(f:Int),out)) (b10,79))=some ((cutP t f:Nat):Int):=by
 have test:∀i:Nat,1<=i->i < t.length->((bif decide ((f:Int)<=(i:Int)) then (idx t (i:Int)).bind fun v18=>(v1a v18).bind fun v20=>(bif v20 then (idx t ((w64 ((i:Int) - 1)))).bind fun v23=>(v1a v23).bind fun v25=>some ((!v25)) else some false) else some false):Option Bool)=some (br t f i):=by
  intro i h1 h2;have hpre:w64 ((i:Int) - 1)=((i - 1:Nat):Int):=by rw[vja (by omega) (by omega)];omega
  rw[br_at h1 h2,Wta h2,hpre,Wta (show i - 1 < t.length by omega)];have e:decide ((f:Int)<=(i:Int))=decide (f<=i):=by rw[Bool.eq_iff_iff];simp
  rw[e];simp only[Option.bind_some,Wza];cases decide (f<=i) <;> cases wRa t[i] <;> rfl
 have hdn:∀i:Nat,i<=78->iter (kza (t,(f:Int),out)) (0,(i:Int))=some ((K5a t f i:Nat):Int):=by
  intro i;induction i with
  | zero=>intro _;exact zIa (by unfold kza;rfl)
  | succ i ih=>
   intro hi;have hb:kza (t,(f:Int),out) (0,((i+1:Nat):Int))=some (.cont ((bif br t f (i+1) then ((i+1:Nat):Int) else 0),(i:Int))):=by
    unfold kza;dsimp only;have e1:decide ((0:Int) < ((i+1:Nat):Int))=true:=by rw[decide_eq_true_eq];omega
    have e2:w64 (((i+1:Nat):Int) - 1)=(i:Int):=by rw[vja (by omega) (by omega)];omega
    rw[test (i+1) (by omega) (by omega),e1,e2];simp only[beq_self_eq_true,cond_true,Option.bind_some];cases br t f (i+1) <;> rfl
   rw[zVa hb];unfold K5a;cases hq:br t f (i+1) with
   | false=>simpa using ih (by omega)
   | true=>
    simp only[cond_true,if_true];refine zIa ?_;unfold kza;dsimp only;have e3:((((i+1:Nat):Int))==0)=false:=by rw[beq_eq_false_iff_ne];omega
    rw[e3];cases decide ((0:Int) < (i:Int)) <;> rfl
 have h1:=hdn 78 (by omega);have e78:((78:Nat):Int)=78:=rfl;rw[e78]at h1;rw[h1];simp only[Option.bind_some];have hout:∀(c i:Nat),c≠0->iter (kfa (t,(f:Int),out)) ((c:Int),(i:Int))=some ((c:Nat):Int):=by
  intro c i hc;refine zIa ?_;unfold kfa;dsimp only;have e3:((c:Int)==0)=false:=by rw[beq_eq_false_iff_ne];omega
  rw[e3];cases decide ((i:Int) < (t.length:Int)) <;> rfl
 have hup:∀n i:Nat,i+n=t.length->1<=i->iter (kfa (t,(f:Int),out)) (0,(i:Int))=some ((Ypa t f n i:Nat):Int):=by
  intro n;induction n with
  | zero=>
   intro i hi _;refine zIa ?_;unfold kfa;dsimp only;have:decide ((i:Int) < (t.length:Int))=false:=by rw[decide_eq_false_iff_not];omega
   rw[this];rfl
  | succ n ih=>
   intro i hi h1i;have hb:kfa (t,(f:Int),out) (0,(i:Int))=some (.cont ((bif br t f i then (i:Int) else 0),((i+1:Nat):Int))):=by
    unfold kfa;dsimp only;have e1:decide ((i:Int) < (t.length:Int))=true:=by simp;omega
    rw[test i h1i (by omega),e1,sc i (by omega)];simp only[beq_self_eq_true,cond_true,Option.bind_some];cases br t f i <;> rfl
   rw[zVa hb];unfold Ypa;cases hq:br t f i with
   | false=>simpa using ih (i+1) (by omega) (by omega)
   | true=>
    simp only[cond_true,if_true];exact hout i (i+1) (by omega)
 unfold cutP;have e79:((79:Nat):Int)=79:=rfl;by_cases h0:K5a t f 78=0
 .rw[if_pos h0,h0];have:=hup (t.length - 79) 79 (by omega) (by omega);rw[e79]at this;exact this
 rw[if_neg h0];have:=hout (K5a t f 78) 79 h0;rw[e79]at this;exact this
def Kza:Nat->Str->Nat->List Str
 | 0,t,_=>[t]
 | n+1,t,f=>if 78 < t.length then (if cutP t f=0 then [t] else t.take (cutP t f)::Kza n (t.drop (cutP t f)) 1) else [t]
theorem Yra:∀(n m:Nat) (t:Str) (f:Nat),t.length<=n->t.length<=m->Kza n t f=Kza m t f:=by
 intro n;induction n with
 | zero=>
  intro m t f h1 h2;cases m with
  | zero=>rfl
  | succ m=>unfold Kza;rw[if_neg (by omega)]
 | succ n ih=>
  intro m t f h1 h2;cases m with
  | zero=>unfold Kza;rw[if_neg (by omega)]
  | succ m=>
   unfold Kza;split
   .split
    .rfl
    rename_i hc;have:=Zna hc;rw[ih m _ 1 (by simp;omega) (by simp;omega)]
   rfl
def yka(t:Str)(f:Nat):List Str:=Kza t.length t f
theorem Qna{t:Str}{f:Nat}(h:78 < t.length)(hc:cutP t f≠0):yka t f=t.take (cutP t f)::yka (t.drop (cutP t f)) 1:=by
 unfold yka;obtain ⟨n,hn⟩:∃n,t.length=n+1:=⟨t.length - 1,by omega⟩;have hp:=Zna hc;rw[hn,Kza,if_pos h,if_neg hc];rw[Yra n (t.drop (cutP t f)).length _ 1 (by simp;omega) (Nat.le_refl _)]
theorem wja{t:Str}{f:Nat}(h:¬78 < t.length∨cutP t f=0):yka t f=[t]:=by
 unfold yka;cases hn:t.length with
 | zero=>rfl
 | succ n=>
  rw[Kza];rcases h with h | h
  .rw[if_neg h]
  split
  .rfl
  rfl
theorem Qoa:∀(n:Nat) (t:Str) (f:Nat),t.length<=n->(yka t f).flatten=t/\(yka t f).length<=t.length+1:=by
 intro n;induction n with
 | zero=>intro t f h;rw[wja (.inl (by omega))];simp
 | succ n ih=>
  intro t f h;by_cases h78:78 < t.length
  .by_cases hc:cutP t f=0
   .rw[wja (.inr hc)];simp
   have hp:=Zna hc;rw[Qna h78 hc];obtain ⟨h1,h2⟩:=ih (t.drop (cutP t f)) 1 (by simp;omega);rw[List.flatten_cons,h1];refine ⟨by simp,?_⟩;simp only[List.length_cons,List.length_drop]at h2 ⊢;omega
  rw[wja (.inl h78)];simp
theorem WAa{body:Str × Int × List Str->Option (Step (Str × Int × List Str) (Str × List Str))}(enc:Nat->Int)(g:Nat)
 (h:∀(t:Str) (f:Nat) (out:List Str),t.length<=4194304->out.length<=4194305->f<=4194304->body (t,enc f,out)=some (if 78 < t.length then (if cutP t (max f 1)=0 then .out (t,out) else .cont (t.drop (cutP t (max f 1)),enc g,out++ [t.take (cutP t (max f 1))])) else .out (t,out))) (h0:max g 1=1):
 ∀(n:Nat) (t:Str) (f:Nat) (out:List Str),t.length<=n->t.length<=4194304->out.length+t.length<=4194305->f<=4194304->∃last init,iter body (t,enc f,out)=some (last,init)/\init++ [last]=out++yka t (max f 1):=by
 intro n;induction n with
 | zero=>
  intro t f out h1 h2 h3 h4;have hb:=h t f out h2 (by omega) h4;rw[if_neg (by omega)]at hb;exact ⟨t,out,zIa hb,by rw[wja (.inl (by omega))]⟩
 | succ n ih=>
  intro t f out h1 h2 h3 h4;have hb:=h t f out h2 (by omega) h4;by_cases h78:78 < t.length
  .rw[if_pos h78]at hb;by_cases hc:cutP t (max f 1)=0
   .rw[if_pos hc]at hb;exact ⟨t,out,zIa hb,by rw[wja (.inr hc)]⟩
   rw[if_neg hc]at hb;have hp:=Zna hc;obtain ⟨last,init,q1,q2⟩:=ih (t.drop (cutP t (max f 1))) g (out++ [t.take (cutP t (max f 1))]) (by simp;omega) (by simp;omega) (by simp;omega) (by omega);refine ⟨last,init,(zVa hb).trans q1,?_⟩;rw[q2,h0,Qna h78 hc];simp
  rw[if_neg h78]at hb;exact ⟨t,out,zIa hb,by rw[wja (.inl h78)]⟩
def txt(n v:Str):Str:=n++ [58,32]++v
def flP(n v:Str):List Str:=yka (txt n v) (n.length+2)
theorem qXb(t:Str)(f:Nat)(ht:t.length<=4194304)(hf:f<=4194304):∃last init,iter wAa (t,(f:Int),([]:List Str))=some (last,init)/\init++ [last]=yka t (max f 1):=by
 have:=WAa (body:=wAa) (fun n=>(n:Int)) 0 (fun t f out h1 h2 h3=>by
  unfold wAa;dsimp only;by_cases h78:78 < t.length
  .have hd:decide ((78:Int) < (t.length:Int))=true:=by rw[decide_eq_true_eq];omega
   rw[hd,if_pos h78,Yqa t f h1 h3];simp only[cond_true,Option.bind_some];by_cases hc:cutP t (max f 1)=0
   .rw[if_pos hc,hc];rfl
   have hp:=Zna hc;have e:(((cutP t (max f 1):Nat):Int)==0)=false:=by rw[beq_eq_false_iff_ne];omega
   rw[if_neg hc,e,Vna (by omega),Vma (by omega)];simp only[cond_false,Option.bind_some];rw[qPa (by simp;omega)];rfl
  have hd:decide ((78:Int) < (t.length:Int))=false:=by rw[decide_eq_false_iff_not];omega
  rw[hd,if_neg h78];rfl) (by decide) t.length t f [] (Nat.le_refl _) ht (by simp;omega) hf
 simpa using this
theorem ref_loop(t:Str)(f:Nat)(ht:t.length<=4194304)(hf:f<=4194304)(h1f:1<=f):∃last init,iter q0a (t,(f:Int),([]:List Str))=some (last,init)/\init++ [last]=yka t f:=by
 have:=WAa (body:=q0a) (fun n=>((max n 1:Nat):Int)) 1 (fun t f out h1 h2 h3=>by
  unfold q0a;dsimp only;by_cases h78:78 < t.length
  .have hd:decide ((78:Int) < (t.length:Int))=true:=by rw[decide_eq_true_eq];omega
   have hc0:=R_cut_eq t (max f 1) out h1 h78 (by omega) (by omega);obtain ⟨b10,hb10,hc1⟩:=Option.bind_eq_some_iff.1 hc0;rw[hd,if_pos h78,hb10];simp only[cond_true,Option.bind_some];rw[hc1];simp only[Option.bind_some];by_cases hc:cutP t (max f 1)=0
   .rw[if_pos hc,hc];rfl
   have hp:=Zna hc;have e:(((cutP t (max f 1):Nat):Int)==0)=false:=by rw[beq_eq_false_iff_ne];omega
   rw[if_neg hc,e,Vna (by omega),Vma (by omega)];simp only[cond_false,Option.bind_some];rw[qPa (by simp;omega)];rfl
  have hd:decide ((78:Int) < (t.length:Int))=false:=by rw[decide_eq_false_iff_not];omega
  rw[hd,if_neg h78];rfl) (by decide) t.length t f [] (Nat.le_refl _) ht (by simp;omega) hf
 have e:max f 1=f:=by omega
 rw[e]at this;simpa using this
theorem qYb(n v:Str)(hn:n.length<=1048576)(hv:v.length<=1048576):cat n [58,32]=some (n++ [58,32])/\cat (n++ [58,32]) v=some (txt n v)/\w64 ((n.length:Int)+2)=((n.length+2:Nat):Int):=by
 refine ⟨cat_ok (by simp;omega),cat_ok (by simp;omega),?_⟩;rw[vja (by omega) (by omega)];omega
theorem zeb(n v:Str):(txt n v).length=n.length+2+v.length:=by unfold txt;simp;omega
theorem j0a(n v:Str)(hn:n.length<=1048576)(hv:v.length<=1048576):vNa n v=some (flP n v):=by
 obtain ⟨h1,h2,h3⟩:=qYb n v hn hv;have hl:=zeb n v;obtain ⟨last,init,q1,q2⟩:=ref_loop (txt n v) (n.length+2) (by omega) (by omega) (by omega);unfold vNa flP;rw[h1];simp only[Option.bind_some];rw[h2];simp only[Option.bind_some];rw[h3,q1];simp only[Option.bind_some];have hj:=(Qoa (txt n v).length (txt n v) (n.length+2) (Nat.le_refl _)).2;rw[<-q2]at hj;simp at hj;rw[qPa (by simp;omega),q2];rfl
def Vsa(i:Nat)(l:Str):Option Int:=if 998 < l.length then some (i:Int) else none
def zfb(n v:Str):List Str × zpa:=
 if !fnP n then ([],⟨10, -1⟩) else if 4000 < v.length then ([],⟨1, -1⟩) else if !valP v then ([],⟨11, -1⟩) else match zTa Vsa 0 (flP n v) with | some i=>([],⟨1,i⟩) | none=>(flP n v,⟨0,0⟩)
theorem zKb(n v:Str):(flP n v).length<=n.length+v.length+3:=by
 have:=(Qoa (txt n v).length (txt n v) (n.length+2) (Nat.le_refl _)).2;have hl:=zeb n v;unfold flP;omega
theorem dec998(l:Str):decide ((998:Int) < (l.length:Int))=decide (998 < l.length):=by generalize l.length=n;rw[Bool.eq_iff_iff];simp;omega
theorem Qpa(n v:Str)(hn:n.length<=1048576)(hv:v.length<=1048576):yWa n v=some (zfb n v):=by
 obtain ⟨h1,h2,h3⟩:=qYb n v hn hv;have hl:=zeb n v;obtain ⟨last,init,q1,q2⟩:=qXb (txt n v) (n.length+2) (by omega) (by omega);rw[show max (n.length+2) 1=n.length+2 by omega]at q2;unfold yWa zfb;rw[Jea n hn,Yoa v hv];simp only[Option.bind_some,zOa,kwa];cases fnP n with
 | false=>rfl
 | true=>
  simp only[Bool.not_true,cond_false,Bool.false_eq_true,if_false];by_cases h4:4000 < v.length
  .have hd:decide ((4000:Int) < (v.length:Int))=true:=by rw[decide_eq_true_eq];omega
   rw[hd,if_pos h4];rfl
  have hd:decide ((4000:Int) < (v.length:Int))=false:=by rw[decide_eq_false_iff_not];omega
  rw[hd,if_neg h4];simp only[cond_false];cases valP v with
  | false=>rfl
  | true=>
   simp only[Bool.not_true,cond_false,Bool.false_eq_true,if_false];rw[h1];simp only[Option.bind_some];rw[h2];simp only[Option.bind_some];rw[h3,q1];simp only[Option.bind_some];have hj:=zKb n v;have hfl:flP n v=init++ [last]:=q2.symm;have hj2:=hj;rw[hfl]at hj2;simp at hj2;rw[qPa (by simp;omega),<-hfl];simp only[Option.bind_some];rw[zKa (flP n v) (fun i l=>(Vsa i l).map fun k=>(([]:List Str),(⟨1,k⟩:zpa))) (.inl ()) .inr]
   .simp only[Option.bind_some];have hm:∀(l:List Str) (i:Nat),zTa (fun i l=>(Vsa i l).map fun k=>(([]:List Str),(⟨1,k⟩:zpa))) i l=(zTa Vsa i l).map fun k=>(([]:List Str),(⟨1,k⟩:zpa)):=by
     intro l;induction l with
     | nil=>intro i;rfl
     | cons x l ih=>intro i;unfold zTa;rw[ih];cases Vsa i x <;> rfl
    rw[hm];cases zTa Vsa 0 (flP n v) <;> rfl
   .unfold yza;rw[zEa];rfl
   intro i l hli;have hi:=zGa hli;unfold yza Vsa;rw[zUa hli,zta hli];simp only[cond_true,Option.bind_some,dec998,zOa,sc i (by omega)];by_cases h9:998 < l.length
   .simp[h9]
   simp[h9]
def ZXa(f:zga):Int:=(zfb f.Name f.Value).2.Code
def zgb(l:List Str):Bool:=l.any fun s=>decide (998 < s.length)
theorem WBa(l:List Str):∀n,(zTa Vsa n l).isSome=zgb l:=by
 induction l with
 | nil=>intro n;rfl
 | cons x l ih=>
  intro n;unfold zTa zgb Vsa;by_cases h:998 < x.length
  .simp[h]
  simp only[h,if_false,List.any_cons,decide_false,Bool.false_or];exact ih (n+1)
def codeQ(n v:Str):Int:=if !fnP n then 10 else if 4000 < v.length then 1 else if !valP v then 11 else if zgb (flP n v) then 1 else 0
theorem zLb(f:zga):ZXa f=codeQ f.Name f.Value:=by
 unfold ZXa zfb codeQ;rw[<-WBa (flP f.Name f.Value) 0];split
 .rfl
 split
 .rfl
 split
 .rfl
 cases zTa Vsa 0 (flP f.Name f.Value) <;> rfl
theorem R_In_60(s:Str):R_In (s.length:Int) 1 60=some (s !=([]:Str) && decide (s.length<=60)):=by
 rw[wha];cases s with
 | nil=>rfl
 | cons c s=>
  have h:decide ((1:Int)<=((c::s).length:Int))=true:=by rw[decide_eq_true_eq];simp;omega
  rw[h,dec60];rfl
theorem elim_int(c:Int)(o:Option Unit)(f:Unit->Option Int):Sum.elim f (fun b=>some b) (o.elim (Sum.inl ()) (fun _=>Sum.inr c):Unit ⊕ Int)=bif o.isSome then some c else f ():=by cases o <;> rfl
theorem V0a(f:zga)(hn:f.Name.length<=1048576)(hv:f.Value.length<=1048576):yga f=some (ZXa f):=by
 rw[zLb];unfold yga;have hl1:iter (vqa f) 0=some ((zTa (fun _ c=>if !fnC c then some () else none) 0 f.Name).elim (.inl ()) fun _=>.inr 10):=by
  refine zKa f.Name _ (Sum.inl ()) (fun _=>Sum.inr 10) ?_ ?_
  .unfold vqa;rw[zEa];rfl
  intro i c hc;have hi:=zGa hc;unfold vqa;rw[zUa hc,zta hc];simp only[cond_true,Option.bind_some,wha,ysa c 58 (by decide),jva 33 c (by decide),jwa 126 c (by decide),sc i (by omega)];unfold fnC bne;cases decide ((33:UInt8)<=c) <;> cases decide (c<=126) <;> cases c==58 <;> rfl
 have hl2:iter (vra f) 0=some ((zTa (fun _ c=>if endC c then some () else none) 0 f.Value).elim (.inl ()) fun _=>.inr 11):=by
  refine zKa f.Value _ (Sum.inl ()) (fun _=>Sum.inr 11) ?_ ?_
  .unfold vra;rw[zEa];rfl
  intro i c hc;have hi:=zGa hc;unfold vra;rw[zUa hc,zta hc];simp only[cond_true,Option.bind_some,ysa c 0 (by decide),ysa c 10 (by decide),ysa c 13 (by decide),sc i (by omega)];unfold endC;cases c==0 <;> cases c==10 <;> cases c==13 <;> rfl
 have hl3:∀l:List Str,l.length<=4194304->iter (vsa l) 0=some ((zTa (fun _ c=>if decide (998 < c.length) then some () else none) 0 l).elim (.inl ()) fun _=>.inr 1):=by
  intro l hl;refine zKa l _ (Sum.inl ()) (fun _=>Sum.inr 1) ?_ ?_
  .unfold vsa;rw[zEa];rfl
  intro i c hc;have hi:=zGa hc;unfold vsa;rw[zUa hc,zta hc];simp only[cond_true,Option.bind_some,dec998,sc i (by omega)];cases decide (998 < c.length) <;> rfl
 have hfl:=zKb f.Name f.Value;rw[hl1];simp only[Option.bind_some,elim_int,jma,Yla,R_In_60,hl2,j0a _ _ hn hv,hl3 _ (show (flP f.Name f.Value).length<=4194304 by omega)];have h4:decide ((4000:Int) < (f.Value.length:Int))=decide (4000 < f.Value.length):=by generalize f.Value.length=n;rw[Bool.eq_iff_iff];simp;omega
 have he:(bif decide ((0:Int) < (f.Value.length:Int)) then (idx f.Value 0).bind fun v38=>(v1a v38).bind fun v40=>(bif v40 then some true else (idx f.Value ((w64 ((f.Value.length:Int) - 1)))).bind fun v43=>(v1a v43).bind fun v45=>some v45) else some false)=some (qUb f.Value):=by
  by_cases hn0:f.Value=[]
  .rw[hn0];rfl
  obtain ⟨a,b,h1,h2,h3,h4⟩:=zJb f.Value hn0 hv;have hp:=List.length_pos_iff.2 hn0;have hd:decide ((0:Int) < (f.Value.length:Int))=true:=by rw[decide_eq_true_eq];omega
  unfold qUb;rw[h1,h2,h3,h4,hd];simp only[Option.bind_some,Wza,cond_true];cases wRa a <;> rfl
 rw[he,h4];simp only[Option.bind_some];unfold codeQ fnP valP zgb;cases f.Name.all fnC <;> cases (f.Name !=([]:Str)) <;> cases decide (f.Name.length<=60) <;> (try rfl)
 simp only[Bool.and_true,Bool.not_true,Bool.false_eq_true,if_false,cond_false];by_cases h4000:4000 < f.Value.length
 .simp[h4000]
 simp only[h4000,decide_false,cond_false,if_false];cases f.Value.any endC <;> cases qUb f.Value <;> (try rfl)
 simp only[Bool.not_false,Bool.and_true,Bool.not_true,Bool.false_eq_true,if_false,cond_false];cases (flP f.Name f.Value).any fun s=>decide (998 < s.length) <;> rfl
def smallF(l:List zga):Prop:=l.length<=1048576/\∀f∈l,f.Name.length<=1048576/\f.Value.length<=1048576
def j1a(i:Nat)(f:zga):Option zpa:=if ZXa f !=0 then some ⟨ZXa f,i⟩ else none
def KAa(l:List zga):zpa:=if 60 < l.length then ⟨2, -1⟩ else (zTa j1a 0 l).getD ⟨0,0⟩
theorem dec60f(l:List zga):decide ((60:Int) < (l.length:Int))=decide (60 < l.length):=by generalize l.length=n;rw[Bool.eq_iff_iff];simp;omega
theorem KBa(l:List zga)(h:smallF l):qZa l=some (KAa l):=by
 obtain ⟨h1,h2⟩:=h;unfold qZa KAa;rw[zKa l j1a (.inl ()) .inr]
 .simp only[Option.bind_some,zOa,kwa,K4a,dec60f];by_cases h6:60 < l.length <;> simp[h6]
 .unfold qOa;rw[zEa];rfl
 intro i f hf;have hi:=zGa hf;obtain ⟨hn,hv⟩:=h2 f (List.mem_of_getElem? hf);unfold qOa j1a;rw[zUa hf,zta hf];simp only[cond_true,Option.bind_some,Qpa _ _ hn hv,kga,zOa,sc i (by omega)];show (bif ZXa f !=0 then _ else _)=_;cases ZXa f !=0 <;> rfl
theorem K6a(l:List zga)(h:(KAa l).Code=0):¬60 < l.length/\zTa j1a 0 l=none/\∀f∈l,ZXa f=0:=by
 unfold KAa at h;by_cases h6:60 < l.length
 .rw[if_pos h6]at h;simp at h
 rw[if_neg h6]at h;cases hq:zTa j1a 0 l with
 | some y=>
  rw[hq]at h;obtain ⟨i,f,h1,h2⟩:=jla hq;unfold j1a at h2;exfalso;by_cases hc:ZXa f=0
  .simp[hc]at h2
  have:(ZXa f !=0)=true:=by simpa using hc
  rw[this]at h2;simp at h2;subst h2;exact hc h
 | none=>
  refine ⟨h6,rfl,fun f hf=>?_⟩;obtain ⟨i,hi⟩:=List.getElem?_of_mem hf;have:=qBa.1 hq i f hi;unfold j1a at this;simpa using this
theorem zMb{f:zga}(h:ZXa f=0):f.Name.length<=60/\f.Value.length<=4000/\zfb f.Name f.Value=(flP f.Name f.Value,⟨0,0⟩)/\∀l∈flP f.Name f.Value,l.length<=998:=by
 have h0:=h;rw[zLb]at h;unfold codeQ at h;have h1:fnP f.Name=true:=by cases hx:fnP f.Name with
  | true=>rfl
  | false=>rw[hx]at h;simp at h
 rw[h1]at h;simp only[Bool.not_true,Bool.false_eq_true,if_false]at h;have h2:¬4000 < f.Value.length:=by intro hx;rw[if_pos hx]at h;simp at h
 rw[if_neg h2]at h;have h3:valP f.Value=true:=by cases hx:valP f.Value with
  | true=>rfl
  | false=>rw[hx]at h;simp at h
 rw[h3]at h;simp only[Bool.not_true,Bool.false_eq_true,if_false]at h;have h4:zgb (flP f.Name f.Value)=false:=by cases hx:zgb (flP f.Name f.Value) with
  | false=>rfl
  | true=>rw[hx]at h;simp at h
 refine ⟨?_,by omega,?_,?_⟩
 .unfold fnP at h1;simp only[Bool.and_eq_true,decide_eq_true_eq]at h1;exact h1.1.2
 .unfold zfb;rw[h1,h3];simp only[Bool.not_true,Bool.false_eq_true,if_false,if_neg h2];have:=WBa (flP f.Name f.Value) 0;rw[h4]at this;cases hx:zTa Vsa 0 (flP f.Name f.Value) with
  | none=>rfl
  | some y=>rw[hx]at this;cases this
 intro l hl;unfold zgb at h4;rw[List.any_eq_false]at h4;have:=h4 l hl;simp at this;omega
def addL(a:List UInt8)(l:Str):List UInt8:=a++l++ [13,10]
def addF(a:List UInt8)(f:zga):List UInt8:=(flP f.Name f.Value).foldl addL a
def yla(m:zsa):List UInt8:=m.Fields.foldl addF []++ [13,10]++m.Body
theorem zNb(l:List Str)(acc:List UInt8)(hl:l.length<=5000)(h9:∀s∈l,s.length<=998)(ha:acc.length<=1000000000){body:Int × List UInt8->Option (Step (Int × List UInt8) (List UInt8))}
 (h0:∀s,body ((l.length:Int),s)=some (.out s)) (h1:∀(i:Nat) x s,l[i]? =some x->s.length<=1006000000->body ((i:Int),s)=some (.cont (((i+1:Nat):Int),addL s x))):iter body (0,acc)=some (l.foldl addL acc)/\(l.foldl addL acc).length<=acc.length+1000 * l.length:=
 Kua l (fun i s=>(i,s)) addL id (fun i s=>s.length<=acc.length+1000 * i) (body:=body) (fun s _=>h0 s) (fun i x s hx hi=>by
  have hlt:=zGa hx;have h9x:=h9 x (List.mem_of_getElem? hx);refine ⟨h1 i x s hx (by omega),?_⟩;unfold addL;simp;omega) acc (by simp)
theorem Jha(l:List zga)(hl:l.length<=60)(hc:∀f∈l,ZXa f=0){body:Int × List UInt8->Option (Step (Int × List UInt8) (List UInt8))}
 (h0:∀s,body ((l.length:Int),s)=some (.out s)) (h1:∀(i:Nat) f s,l[i]? =some f->s.length<=1000000000->body ((i:Int),s)=some (.cont (((i+1:Nat):Int),addF s f))/\(addF s f).length<=s.length+5000000):iter body (0,([]:List UInt8))=some (l.foldl addF [])/\(l.foldl addF []).length<=5000000 * l.length:=
 Kua l (fun i s=>(i,s)) addF id (fun i s=>s.length<=5000000 * i) (body:=body) (fun s _=>h0 s) (fun i f s hf hi=>by
  have hlt:=zGa hf;obtain ⟨q1,q2⟩:=h1 i f s hf (by omega);exact ⟨q1,by omega⟩) [] (by simp)
theorem QAa(m:zsa)(hb:m.Body.length<=1048576)(h60:m.Fields.length<=60)(hc:∀f∈m.Fields,ZXa f=0):vZa m=some (yla m):=by
 unfold vZa yla;obtain ⟨h1,h2⟩:=Jha m.Fields h60 hc (body:=qFa m) (fun s=>by unfold qFa;rw[zEa];rfl) (fun i f s hf hs=>by
  have hi:=zGa hf;obtain ⟨c1,c2,c3,c4⟩:=zMb (hc f (List.mem_of_getElem? hf));have hfl:=zKb f.Name f.Value;obtain ⟨q1,q2⟩:=zNb (flP f.Name f.Value) s (by omega) c4 hs (body:=qEa (zfb f.Name f.Value)) (fun s=>by unfold qEa;rw[c3,zEa];rfl) (fun k x s hx hs=>by
   have hk:=zGa hx;have:=c4 x (List.mem_of_getElem? hx);unfold qEa;rw[c3,zUa hx,zta hx];simp only[cond_true,Option.bind_some,sc k (by omega)];rw[qPa (by omega)];simp only[Option.bind_some];rw[qPa (by simp;omega)];rfl)
  unfold addF;refine ⟨?_,by omega⟩;unfold qFa;rw[zUa hf,zta hf];simp only[cond_true,Option.bind_some,Qpa f.Name f.Value (by omega) (by omega),q1,sc i (by omega)])
 rw[h1];simp only[Option.bind_some];rw[qPa (by simp;omega)];simp only[Option.bind_some];rw[qPa (by simp;omega)];rfl
theorem K7a(m:zsa)(hb:m.Body.length<=1048576)(h60:m.Fields.length<=60)(hc:∀f∈m.Fields,ZXa f=0):vta m=some (yla m):=by
 unfold vta yla;obtain ⟨h1,h2⟩:=Jha m.Fields h60 hc (body:=qma m) (fun s=>by unfold qma;rw[zEa];rfl) (fun i f s hf hs=>by
  have hi:=zGa hf;obtain ⟨c1,c2,c3,c4⟩:=zMb (hc f (List.mem_of_getElem? hf));have hfl:=zKb f.Name f.Value;obtain ⟨q1,q2⟩:=zNb (flP f.Name f.Value) s (by omega) c4 hs (body:=qla (flP f.Name f.Value)) (fun s=>by unfold qla;rw[zEa];rfl) (fun k x s hx hs=>by
   have hk:=zGa hx;have:=c4 x (List.mem_of_getElem? hx);unfold qla;rw[zUa hx,zta hx];simp only[cond_true,Option.bind_some,sc k (by omega)];rw[qPa (by omega)];simp only[Option.bind_some];rw[qPa (by simp;omega)];rfl)
  unfold addF;refine ⟨?_,by omega⟩;unfold qma;rw[zUa hf,zta hf];simp only[cond_true,Option.bind_some,j0a f.Name f.Value (by omega) (by omega),q1,sc i (by omega)])
 rw[h1];simp only[Option.bind_some];rw[qPa (by simp;omega)];simp only[Option.bind_some];rw[qPa (by simp;omega)];rfl
def V1a:Nat->List UInt8->Option Bool
 | _,[]=>none
 | c,[x]=>if x==13 || x==10 then some true else if 998 < c+1 then some false else none
 | c,x::y::r=>if x==13 && y==10 then V1a 0 r else if x==13 || x==10 then some true else if 998 < c+1 then some false else V1a (c+1) (y::r)
def KCa{O:Type}(e:Bool->O)(c i:Nat)(x:UInt8)(r:List UInt8):Step (Int × Int) (Unit ⊕ O):=
 if x==13 && r.head? ==some 10 then .cont (0,((i+2:Nat):Int)) else if x==13 || x==10 then .out (.inr (e true)) else if 998 < c+1 then .out (.inr (e false)) else .cont (((c+1:Nat):Int),((i+1:Nat):Int))
theorem Jia{O:Type}(e:Bool->O)(l:List UInt8){body:Int × Int->Option (Step (Int × Int) (Unit ⊕ O))}
 (h0:∀c,body (c,(l.length:Int))=some (.out (.inl ())))
 (hs:∀(c:Nat) (p:List UInt8) x r,l=p++x::r->c<=998->body ((c:Int),(p.length:Int))=some (KCa e c p.length x r)):
 ∀(n:Nat) (r p:List UInt8) (c:Nat),r.length<=n->l=p++r->c<=998->iter body ((c:Int),(p.length:Int))=some ((V1a c r).elim (.inl ()) fun b=>.inr (e b)):=by
 intro n;induction n with
 | zero=>
  intro r p c hr hl hc;obtain rfl:r=[]:=List.length_eq_zero_iff.1 (by omega);have:p=l:=by simp[hl]
  subst this;exact zIa (h0 _)
 | succ n ih=>
  intro r p c hr hl hc
  match r,hr,hl with
  | [],_,hl=>
   have:p=l:=by simp[hl]
   subst this;exact zIa (h0 _)
  | [x],hr,hl=>
   have hb:=hs c p x [] hl hc;unfold KCa at hb;have e1:(x==13 && ([]:List UInt8).head? ==some 10)=false:=by simp
   rw[e1]at hb;simp only[Bool.false_eq_true,if_false]at hb;unfold V1a;cases hx:(x==13 || x==10) with
   | true=>rw[hx]at hb;exact zIa hb
   | false=>
    rw[hx]at hb;simp only[Bool.false_eq_true,if_false]at hb ⊢;by_cases h9:998 < c+1
    .rw[if_pos h9]at hb ⊢;exact zIa hb
    rw[if_neg h9]at hb ⊢;rw[zVa hb];have:=ih [] (p++ [x]) (c+1) (by simp) (by simp[hl]) (by omega);rw[List.length_append]at this;exact this
  | x::y::r,hr,hl=>
   have hb:=hs c p x (y::r) hl hc;unfold KCa at hb;have e1:((y::r).head? ==some (10:UInt8))=(y==10):=by simp
   rw[e1]at hb;unfold V1a;cases hxy:(x==13 && y==10) with
   | true=>
    rw[hxy]at hb;simp only[if_true]at hb ⊢;rw[zVa hb];have:=ih r (p++ [x,y]) 0 (by simp at hr;omega) (by simp[hl]) (by omega);rw[List.length_append]at this;exact this
   | false=>
    rw[hxy]at hb;simp only[Bool.false_eq_true,if_false]at hb ⊢;cases hx:(x==13 || x==10) with
    | true=>rw[hx]at hb;exact zIa hb
    | false=>
     rw[hx]at hb;simp only[Bool.false_eq_true,if_false]at hb ⊢;by_cases h9:998 < c+1
     .rw[if_pos h9]at hb ⊢;exact zIa hb
     rw[if_neg h9]at hb ⊢;rw[zVa hb];have:=ih (y::r) (p++ [x]) (c+1) (by simp at hr ⊢;omega) (by simp[hl]) (by omega);rw[List.length_append]at this;exact this
theorem qZb{l p r:List UInt8}{x:UInt8}(h:l=p++x::r)(hl:l.length<=1048576):(bif decide (((p.length+1:Nat):Int) < (l.length:Int)) then (idx l ((p.length+1:Nat):Int)).bind fun v13=>some (((v13.toNat:Int)==10)) else some false)=some (r.head? ==some 10):=by
 subst h;simp at hl;cases r with
 | nil=>
  have:decide (((p.length+1:Nat):Int) < ((p++ [x]).length:Int))=false:=by simp
  rw[this];rfl
 | cons y r=>
  have:decide (((p.length+1:Nat):Int) < ((p++x::y::r).length:Int))=true:=by simp;omega
  rw[this,Vla];have:(p++x::y::r)[p.length+1]? =some y:=by simp[List.getElem?_append_right]
  rw[this];simp only[cond_true,Option.bind_some,ysa y 10 (by decide)];simp
theorem Ysa(l:List UInt8)(hl:l.length<=1048576):yXa l=some ((V1a 0 l).elim 0 fun b=>bif b then 11 else 1):=by
 unfold yXa;have:=Jia (fun b:Bool=>bif b then (11:Int) else 1) l (body:=vba l) (fun c=>by unfold vba;rw[zEa];rfl) (fun c p x r h hc=>by
  have hx:l[p.length]? =some x:=by simp[h]
  have hi:=zGa hx;unfold vba v0a KCa;dsimp only;rw[zUa hx,zta hx];simp only[cond_true,Option.bind_some,ysa x 13 (by decide),ysa x 10 (by decide),sc p.length (by omega),sc (p.length+1) (by omega),sc c (by omega)];rw[qZb h hl];have h9:decide ((998:Int) < ((c+1:Nat):Int))=decide (998 < c+1):=by rw[Bool.eq_iff_iff];simp;omega
  rw[h9];by_cases h98:998 < c+1 <;> simp only[h98,decide_true,decide_false,if_true,if_false] <;> cases x==13 <;> cases x==10 <;> cases r.head? ==some 10 <;> rfl) l.length l [] 0 (Nat.le_refl _) rfl (by omega)
 have h2:iter (vba l) (0,0)=_:=this;rw[h2];cases V1a 0 l with
 | none=>rfl
 | some b=>cases b <;> rfl
def bodyF(l:List UInt8):zpa:=(V1a 0 l).elim ⟨0,0⟩ fun b=>bif b then ⟨11, -5⟩ else ⟨1, -6⟩
theorem Vta(l:List UInt8)(hl:l.length<=1048576):wBa l=some (bodyF l):=by
 unfold wBa bodyF;rw[Ysa l hl];cases V1a 0 l with
 | none=>rfl
 | some b=>cases b <;> rfl
def msgF(m:zsa):zpa:=if (KAa m.Fields).Code !=0 then KAa m.Fields else if 12000 < (yla m).length then ⟨1, -4⟩ else bodyF m.Body
def WCa(m:zsa):Prop:=smallF m.Fields/\m.Body.length<=1048576
theorem ZYa(m:zsa)(h:WCa m):qGa m=some (msgF m):=by
 obtain ⟨h1,h2⟩:=h;unfold qGa msgF;rw[KBa _ h1];simp only[Option.bind_some,kga,zOa,Vta _ h2];cases hc:(KAa m.Fields).Code !=0 with
 | true=>rfl
 | false=>
  obtain ⟨q1,q2,q3⟩:=K6a m.Fields (by simpa using hc);rw[QAa m h2 (by omega) q3];simp only[Option.bind_some,cond_false,Bool.false_eq_true,if_false];have:decide ((12000:Int) < ((yla m).length:Int))=decide (12000 < (yla m).length):=by generalize (yla m).length=n;rw[Bool.eq_iff_iff];simp;omega
  rw[this];by_cases hb:12000 < (yla m).length <;> simp[hb]
theorem K8a(m:zsa)(h:WCa m):qLa m=some (msgF m):=by
 obtain ⟨⟨h1,h3⟩,h2⟩:=h;unfold qLa msgF;rw[zKa m.Fields j1a (.inl ()) .inr]
 .have hbl:iter (kHa m) (0,0)=_:=Jia (fun b:Bool=>bif b then (⟨11, -5⟩:zpa) else ⟨1, -6⟩) m.Body (body:=kHa m) (fun c=>by unfold kHa;rw[zEa];rfl) (fun c p x r h hc=>by
   have hx:m.Body[p.length]? =some x:=by simp[h]
   have hi:=zGa hx;unfold kHa qna KCa;dsimp only;rw[zUa hx,zta hx];simp only[cond_true,Option.bind_some,ysa x 13 (by decide),ysa x 10 (by decide),sc p.length (by omega),sc (p.length+1) (by omega),sc c (by omega),jna];rw[qZb h h2];have h9:decide ((998:Int) < ((c+1:Nat):Int))=decide (998 < c+1):=by rw[Bool.eq_iff_iff];simp;omega
   rw[h9];by_cases h98:998 < c+1 <;> simp only[h98,decide_true,decide_false,if_true,if_false] <;> cases x==13 <;> cases x==10 <;> cases r.head? ==some 10 <;> rfl) m.Body.length m.Body [] 0 (Nat.le_refl _) rfl (by omega)
  rw[hbl,dec60f];simp only[Option.bind_some,jna];by_cases h6:60 < m.Fields.length
  .have:KAa m.Fields=⟨2, -1⟩:=by unfold KAa;rw[if_pos h6]
   rw[this];simp[h6]
  simp only[h6,decide_false,cond_false];have hh:KAa m.Fields=(zTa j1a 0 m.Fields).getD ⟨0,0⟩:=by unfold KAa;rw[if_neg h6]
  cases hq:zTa j1a 0 m.Fields with
  | some y=>
   rw[hq]at hh;have hc:((KAa m.Fields).Code !=0)=true:=by
    cases hc:(KAa m.Fields).Code !=0 with
    | true=>rfl
    | false=>
     obtain ⟨_,q2,_⟩:=K6a m.Fields (by simpa using hc);rw[hq]at q2;cases q2
   rw[hc,hh];rfl
  | none=>
   rw[hq]at hh;have hz:KAa m.Fields=⟨0,0⟩:=hh;obtain ⟨q1,q2,q3⟩:=K6a m.Fields (by rw[hz]);rw[K7a m h2 (by omega) q3,hz];simp only[Option.bind_some,Option.elim_none,Sum.elim_inl];have hbb:m.Body.length<=(yla m).length:=by unfold yla;simp;omega
   have e2:(bif decide ((12000:Int) < (m.Body.length:Int)) then some true else some (decide ((12000:Int) < ((yla m).length:Int))))=some (decide (12000 < (yla m).length)):=by
    generalize (yla m).length=n at *;by_cases hx:12000 < m.Body.length
    .have e3:decide ((12000:Int) < (m.Body.length:Int))=true:=by rw[decide_eq_true_eq];omega
     have e4:decide (12000 < n)=true:=by rw[decide_eq_true_eq];omega
     rw[e3,e4];rfl
    have e3:decide ((12000:Int) < (m.Body.length:Int))=false:=by rw[decide_eq_false_iff_not];omega
    rw[e3];simp only[cond_false,Option.some.injEq];rw[Bool.eq_iff_iff];simp;omega
   rw[e2];simp only[Option.bind_some];unfold bodyF;by_cases hb:12000 < (yla m).length
   .simp[hb]
   simp only[hb,decide_false,cond_false,if_false];cases V1a 0 m.Body <;> rfl
 .unfold vca;rw[zEa];rfl
 intro i f hf;have hi:=zGa hf;obtain ⟨hn,hv⟩:=h3 f (List.mem_of_getElem? hf);unfold vca j1a;rw[zUa hf,zta hf];simp only[cond_true,Option.bind_some,V0a _ hn hv,jna,sc i (by omega)];cases ZXa f !=0 <;> rfl
instance:DecidableEq zca:=fun a b=>decidable_of_iff (a.Address=b.Address/\a.Notify=b.Notify) (by cases a;cases b;simp)
instance:DecidableEq zpa:=fun a b=>decidable_of_iff (a.Code=b.Code/\a.Index=b.Index) (by cases a;cases b;simp)
instance:DecidableEq zwa:=fun a b=>decidable_of_iff (a.From=b.From/\a.To=b.To/\a.Id=b.Id) (by cases a;cases b;simp)
theorem rec_eq(a b:zca):kja [(a.Address==b.Address),(a.Notify==b.Notify)]=(a==b):=by
 cases a;cases b;rw[Bool.eq_iff_iff];simp[kja]
def Yta(s:Str):Str:=if atP s < s.length then s.drop (atP s+1) else []
theorem kCb(s:Str):(Wva s).2.1=Yta s:=by
 unfold Wva Yta;by_cases h:atP s < s.length
 .rw[if_pos h,if_pos h]
 rw[if_neg h,if_neg h]
theorem q0b{α:Type}(l:List α)(i:Nat)(z:α)(h:i<=l.length):(clr0 l i z).take i=l.take i:=by
 unfold clr0;simp[List.take_append,h]
def Vua(s:Str)(r:zca):Bool:=r.Address==s
def zhb(out:List zca)(s:Str):Bool:=out.any (Vua s)
def putR(out:List zca)(r:zca):List zca:=if zhb out r.Address then out.map (fun x=>if Vua r.Address x then ⟨x.Address,iOr x.Notify r.Notify⟩ else x) else out++ [r]
def posA(out:List zca)(s:Str):Option Nat:=out.findIdx? (Vua s)
theorem posA_has(out:List zca)(s:Str):(posA out s).isSome=zhb out s:=by unfold posA zhb;exact List.findIdx?_isSome
theorem posA_app(out:List zca)(r:zca)(s:Str)(h:zhb out r.Address=false):posA (out++ [r]) s=if r.Address==s then some out.length else posA out s:=by
 unfold posA;rw[List.findIdx?_append];by_cases hs:(r.Address==s)=true
 .rw[if_pos hs];have e:r.Address=s:=beq_iff_eq.1 hs;subst e;have:out.findIdx? (Vua r.Address)=none:=by
   have:=posA_has out r.Address;rw[h]at this;unfold posA at this;simpa using this
  rw[this];simp[Vua]
 rw[if_neg hs];have:Vua s r=false:=by unfold Vua;simpa using hs
 simp[List.findIdx?_cons,this]
theorem posA_map(out:List zca)(f:zca->zca)(hf:∀x,(f x).Address=x.Address)(s:Str):posA (out.map f) s=posA out s:=by
 unfold posA;rw[List.findIdx?_map]
 congr 1
 funext x;simp[Function.comp,Vua,hf]
structure MInv (i:Nat) (out:List zca) (m:List (Str × Int)):Prop where
 len:out.length<=i
 nd:(out.map (·.Address)).Nodup
 mp:∀s,mget m s=(posA out s).map fun k=>((k:Nat):Int)
theorem MInv.put{i:Nat}{out:List zca}{m:List (Str × Int)}(h:MInv i out m)(r:zca):MInv (i+1) (putR out r) (if zhb out r.Address then m else mput m r.Address (out.length:Int)):=by
 unfold putR;cases hh:zhb out r.Address with
 | true=>
  simp only[if_true];have hf:∀x:zca,(if Vua r.Address x then (⟨x.Address,iOr x.Notify r.Notify⟩:zca) else x).Address=x.Address:=by intro x;split <;> rfl
  refine ⟨by simp;have:=h.len;omega,?_,fun s=>?_⟩
  .rw[List.map_map,show ((·.Address) ∘ fun x:zca=>if Vua r.Address x then (⟨x.Address,iOr x.Notify r.Notify⟩:zca) else x)=(·.Address) from funext hf];exact h.nd
  rw[posA_map _ _ hf];exact h.mp s
 | false=>
  simp only[Bool.false_eq_true,if_false];refine ⟨by simp;exact h.len,?_,fun s=>?_⟩
  .rw[List.map_append,List.nodup_append];refine ⟨h.nd,by simp,?_⟩;intro a ha b hb;simp at hb;subst hb;rintro rfl;obtain ⟨x,hx,hxe⟩:=List.mem_map.1 ha;unfold zhb at hh;rw[List.any_eq_false]at hh;exact hh x hx (by simp[Vua,hxe])
  rw[kxb,posA_app _ _ _ hh,h.mp s];by_cases hs:(r.Address==s)=true
  .rw[if_pos hs,if_pos hs];rfl
  rw[if_neg hs,if_neg hs]
theorem recF_ok(l:List zca)(h:(recF l).Code=0):recF l=⟨0,0⟩:=by
 unfold recF at h ⊢;cases hf:zTa (recQ l) 0 l with
 | none=>rfl
 | some f=>
  exfalso;obtain ⟨i,x,hx,hq⟩:=jla hf;rw[hf]at h;unfold recQ at hq;split at hq
  .cases hq;simp at h
  split at hq
  .cases hq;simp at h
  split at hq
  .cases hq;simp at h
  cases hq
theorem envF_ok(e:zwa)(h:(envF e).Code=0):envF e=⟨0,0⟩:=by
 unfold envF at h ⊢;split
 .rename_i h1;rw[if_pos h1]at h;simp at h
 rename_i h1;rw[if_neg h1]at h;split
 .rename_i h2;rw[if_pos h2]at h;simp at h
 rename_i h2;rw[if_neg h2]at h;split
 .rename_i h3;rw[if_pos h3]at h;simp at h
 rename_i h3;rw[if_neg h3]at h;exact recF_ok _ h
theorem q1b{m:zsa}(h:zsa.bk m<=1048576):WCa m:=by
 unfold zsa.bk at h;have h1:=Vqa (bk:=zga.bk) (fun x=>by unfold zga.bk;omega) m.Fields;have h2:=Vqa (bk:=fun _:UInt8=>1) (fun x=>by simp) m.Body;refine ⟨⟨by omega,fun f hf=>?_⟩,by omega⟩;have h5:=Yka (bk:=zga.bk) hf;have h6:zga.bk f=f.Name.length+1+(f.Value.length+1)+1:=rfl;omega
def yma(m:z0a):zpa:=if (envF m.Envelope).Code !=0 then envF m.Envelope else if (msgF m.Message).Code !=0 then ⟨(msgF m.Message).Code, -30⟩ else ⟨0,0⟩
theorem y5a(m:z0a)(h1:Wwa m.Envelope)(h2:WCa m.Message):qKa m=some (yma m):=by
 unfold qKa yma;rw[Zra _ h1,ZYa _ h2];simp only[Option.bind_some,kga,zOa,kwa];cases (envF m.Envelope).Code !=0 <;> cases (msgF m.Message).Code !=0 <;> rfl
theorem ZIa(m:z0a)(h1:Wwa m.Envelope)(h2:WCa m.Message):vGa m=some (yma m):=by
 unfold vGa yma;rw[Kya _ h1,K8a _ h2];simp only[Option.bind_some,jna];by_cases hc:(envF m.Envelope).Code=0
 .have hz:=envF_ok _ hc;rw[hz];cases h:(msgF m.Message).Code !=0 <;> simp[h]
 have e1:((envF m.Envelope).Code !=0)=true:=by simpa using hc
 have e2:((envF m.Envelope).Code==0)=false:=by simpa using hc
 rw[e1,e2];simp only[cond_false,Option.bind_some,if_true]
theorem v7a(t:Int):qia t=some (decide (-68719476736<=t) && decide (t<=68719476736)):=by
 unfold qia;by_cases h:(-68719476736:Int)<=t <;> simp[h]
def add1(o:List Str)(x:Str):List Str:=if o.contains x then o else o++ [x]
def WDa(o xs:List Str):List Str:=xs.foldl add1 o
theorem add1_mem(o:List Str)(x y:Str):y∈add1 o x↔y∈o∨y=x:=by
 unfold add1;split
 .rename_i h;simp at h;constructor
  .exact .inl
  rintro (h1 | rfl)
  .exact h1
  exact h
 simp
theorem zib(o:List Str)(x:Str):o <+:add1 o x:=by
 unfold add1;split
 .exact List.prefix_refl _
 exact List.prefix_append _ _
theorem kDb{o:List Str}(h:o.Nodup)(x:Str):(add1 o x).Nodup:=by
 unfold add1;split
 .exact h
 rename_i hx;simp at hx;rw[List.nodup_append];exact ⟨h,by simp,fun a ha b hb hab=>by simp at hb;subst hb;subst hab;exact hx ha⟩
theorem kEb(xs:List Str):∀(o:List Str) (y:Str),y∈WDa o xs↔y∈o∨y∈xs:=by
 induction xs with
 | nil=>intro o y;simp[WDa]
 | cons x xs ih=>intro o y;show y∈WDa (add1 o x) xs↔_;rw[ih,add1_mem];simp[or_assoc]
theorem Yua(xs:List Str):∀o:List Str,o <+:WDa o xs:=by
 induction xs with
 | nil=>intro o;exact List.prefix_refl _
 | cons x xs ih=>intro o;exact (zib o x).trans (ih _)
theorem Jja(xs:List Str):∀{o:List Str},o.Nodup->(WDa o xs).Nodup:=by
 induction xs with
 | nil=>intro o h;exact h
 | cons x xs ih=>intro o h;exact ih (kDb h x)
theorem nodup_le{l m:List Str}(hl:l.Nodup)(h:∀x∈l,x∈m):l.length<=m.length:=by
 induction l generalizing m with
 | nil=>simp
 | cons x l ih=>
  have hx:x∈m:=h x (by simp);obtain ⟨hxl,hl'⟩:=List.nodup_cons.1 hl;have:=ih (m:=m.erase x) hl' (fun y hy=>by
   have hne:y≠x:=by rintro rfl;exact hxl hy
   exact (List.mem_erase_of_ne hne).2 (h y (by simp[hy])))
  rw[List.length_erase_of_mem hx]at this;have:0 < m.length:=List.length_pos_of_mem hx;simp;omega
def tgtO(l:List yxa)(s:Str):Option (List Str):=(l.find? (fun a=>a.Address==s)).map (·.To)
def tgt(l:List yxa)(s:Str):List Str:=(tgtO l s).getD []
def univ(l:List yxa)(from_:List Str):List Str:=from_++l.flatMap (·.To)
theorem tgt_sub(l:List yxa)(s x:Str)(h:x∈tgt l s):∃a∈l,a.Address=s/\x∈a.To:=by
 unfold tgt tgtO at h;cases hf:l.find? (fun a=>a.Address==s) with
 | none=>rw[hf]at h;simp at h
 | some a=>
  rw[hf]at h;have:=List.find?_some hf;exact ⟨a,List.mem_of_find?_eq_some hf,by simpa using this,by simpa using h⟩
structure Inv (l:List yxa) (U:List Str) (k:Nat) (out:List Str):Prop where
 nd:out.Nodup
 sub:∀x∈out,x∈U
 le:k<=out.length
theorem Inv.len{l:List yxa}{U:List Str}{k:Nat}{out:List Str}(h:Inv l U k out):out.length<=U.length:=nodup_le h.nd h.sub
theorem Inv.step{l:List yxa}{from_:List Str}{k:Nat}{out:List Str}(h:Inv l (univ l from_) k out){s:Str}(hs:out[k]? =some s):Inv l (univ l from_) (k+1) (WDa out (tgt l s)):=by
 refine ⟨Jja _ h.nd,fun x hx=>?_,?_⟩
 .rcases (kEb _ _ _).1 hx with h1 | h1
  .exact h.sub x h1
  obtain ⟨a,ha,_,hxa⟩:=tgt_sub l s x h1;exact List.mem_append.2 (.inr (List.mem_flatMap.2 ⟨a,ha,hxa⟩))
 have:=(Yua (tgt l s) out).length_le;have:=zGa hs;omega
theorem zOb{α β:Type}(f:α->β)(l:List α):∀o:List β,l.foldl (fun o x=>o++ [f x]) o=o++l.map f:=by
 induction l with
 | nil=>intro o;simp
 | cons x l ih=>intro o;simp[ih]
instance:DecidableEq zga:=fun a b=>decidable_of_iff (a.Name=b.Name/\a.Value=b.Value) (by cases a;cases b;simp)
instance:DecidableEq zsa:=fun a b=>decidable_of_iff (a.Fields=b.Fields/\a.Body=b.Body) (by cases a;cases b;simp)
instance:DecidableEq z0a:=fun a b=>decidable_of_iff (a.Envelope=b.Envelope/\a.Message=b.Message) (by cases a;cases b;simp)
def joa(m:z0a):Prop:=Wwa m.Envelope/\WCa m.Message
theorem KDa{α:Type}{lim:Nat}(l:List α)(h:l.length<=lim):(nilE l.isEmpty (some ([]:List α)) ((app lim ([]:List α) l).bind fun v=>some v))=some l:=by
 rw[qPa (by simpa using h)];simp only[List.nil_append,Option.bind_some];exact YOa _ _ _ (fun he=>by rw[List.isEmpty_iff.1 he])
theorem j2a(l:List zga)(h:l.length<=1048576):zZa l=some l:=KDa l (by omega)
theorem y6a(m:z0a)(h:joa m):kFa m=some m:=by
 obtain ⟨⟨_,_,h1,_⟩,⟨h2,_⟩,h3⟩:=h;unfold kFa;rw[KDa m.Envelope.To (by omega)];simp only[Option.bind_some];rw[j2a _ h2,KDa m.Message.Body (by omega)];rfl
theorem Yva{α:Type}{L:List α}{i:Nat}{x:α}(h:L[i]? =some x):L.set i x=L:=by
 apply List.ext_getElem?;intro j;rw[List.getElem?_set];split
 .rename_i hij;subst hij;split
  .exact h.symm
  rename_i hn;exact absurd (zGa h) hn
 rfl
theorem delAt_eq{α:Type}(L:List α)(k:Nat)(z:α)(hk:k < L.length)(hl:L.length<=1048576):((cut3 L (k:Int) ((w64 ((k:Int)+1))) ((L.length:Int))).bind fun v34=>(bif ((k:Int)==(w64 ((k:Int)+1))) then some L else (cut L 0 (k:Int)).bind fun v37=>(cut L ((w64 ((k:Int)+1))) (L.length:Int)).bind fun v39=>(shft L (k:Int) ((w64 ((k:Int)+1)))).bind fun v41=>(Q4a v41 (((((Int.toNat (k:Int))+(L.length - (Int.toNat ((w64 ((k:Int)+1)))))):Nat):Int)) ((L.length:Int))).bind fun v43=>some ((List.take ((Int.toNat (k:Int))+(L.length - (Int.toNat ((w64 ((k:Int)+1)))))) ((clr0 v41 (Int.toNat (((((Int.toNat (k:Int))+(L.length - (Int.toNat ((w64 ((k:Int)+1)))))):Nat):Int))) z))))))=some (L.take k++L.drop (k+1)):=by
 rw[sc k (by omega)];have e1:cut3 L (k:Int) ((k+1:Nat):Int) (L.length:Int)=some ():=by unfold cut3;rw[if_pos ⟨by omega,by omega,by omega,by omega⟩]
 have e2:((k:Int)==((k+1:Nat):Int))=false:=by rw[beq_eq_false_iff_ne];omega
 rw[e1,e2,Vna (by omega),Vma (by omega)];simp only[Option.bind_some,cond_false,Int.toNat_natCast];have e3:shft L (k:Int) ((k+1:Nat):Int)=some (L.take k++L.drop (k+1)++L.drop (k+(L.length - (k+1)))):=by
  unfold shft;rw[if_pos ⟨by omega,by omega,by omega⟩];simp only[Int.toNat_natCast]
 rw[e3];simp only[Option.bind_some];have hlen:(L.take k++L.drop (k+1)++L.drop (k+(L.length - (k+1)))).length=L.length:=by simp;omega
 have e4:Q4a (L.take k++L.drop (k+1)++L.drop (k+(L.length - (k+1)))) ((k+(L.length - (k+1)):Nat):Int) (L.length:Int)=some ():=by
  unfold Q4a;rw[if_pos ⟨by omega,by omega,by rw[hlen]⟩]
 rw[e4];simp only[Option.bind_some];rw[q0b _ _ _ (by rw[hlen];omega)];have e5:(L.take k++L.drop (k+1)).length=k+(L.length - (k+1)):=by simp;omega
 rw[<-e5,List.take_left'];rfl
theorem KEa(m:zsa)(hf:m.Fields.length<=1048576):v2a m m=some true:=by
 unfold v2a;have e1:((m.Fields.length:Int) !=(m.Fields.length:Int))=false:=by simp
 have e2:(m.Body !=m.Body)=false:=by simp
 rw[e1,e2];simp only[cond_false,Option.bind_some];rw[zKa m.Fields (fun _ _=>none) (.inl ()) .inr]
 .have:zTa (fun _ _=>(none:Option Bool)) 0 m.Fields=none:=by rw[qBa];intro i x _;rfl
  simp only[Option.bind_some];rw[this];rfl
 .unfold vza;rw[zEa];rfl
 intro i f hx;have hi:=zGa hx;unfold vza;rw[zUa hx,zta hx];simp only[cond_true,Option.bind_some,sc i (by omega)];simp[kja]
theorem Vva(m:z0a)(h1:m.Envelope.To.length<=1048576)(h2:m.Message.Fields.length<=1048576):yYa m m=some true:=by
 unfold yYa;have e1:(m.Envelope.From !=m.Envelope.From)=false:=by simp
 have e2:(m.Envelope.Id !=m.Envelope.Id)=false:=by simp
 have e3:((m.Envelope.To.length:Int) !=(m.Envelope.To.length:Int))=false:=by simp
 rw[e1,e2,e3];simp only[cond_false,Option.bind_some];rw[zKa m.Envelope.To (fun _ _=>none) (.inl ()) .inr]
 .have:zTa (fun _ _=>(none:Option Bool)) 0 m.Envelope.To=none:=by rw[qBa];intro i x _;rfl
  simp only[Option.bind_some];rw[this];simp only[Option.elim_none,Sum.elim_inl];rw[KEa _ h2];rfl
 .unfold wWa;rw[zEa];rfl
 intro i f hx;have hi:=zGa hx;unfold wWa;rw[zUa hx,zta hx];simp only[cond_true,Option.bind_some,sc i (by omega)];simp[kja]
theorem K9a{m:z0a}(h:z0a.bk m<=1048576):joa m:=by
 have hb:z0a.bk m=zwa.bk m.Envelope+zsa.bk m.Message+1:=rfl;exact ⟨qQb (by omega),q1b (by omega)⟩
def wBad(w:zda)(r:zca):Bool:= !(w.Recipient==r) || (!(w.Result==0) && !(w.Result==1) && !(w.Result==3)) || (w.Busy && !(w.Result==0))
def opnW(w:zda):Bool:=w.Result==0
def Zsa(e:zba):Bool:=decide (e.To.length=e.Mail.Envelope.To.length) && !((e.To.zip e.Mail.Envelope.To).any fun p=>wBad p.1 p.2) && e.To.any opnW
theorem q2b(w:zda)(r:zca):((bif (!(kja [(w.Recipient.Address==r.Address),(w.Recipient.Notify==r.Notify)])) then some true else (bif (w.Result !=0) then (bif (w.Result !=1) then (bif (w.Result !=3) then some true else (bif w.Busy then some ((w.Result !=0)) else some false)) else (bif w.Busy then some ((w.Result !=0)) else some false)) else (bif w.Busy then some ((w.Result !=0)) else some false))):Option Bool)=some (wBad w r):=by
 rw[rec_eq];unfold wBad;by_cases h0:w.Result=0
 .rw[h0];cases w.Recipient==r <;> cases w.Busy <;> rfl
 have e0:(w.Result==0)=false:=beq_eq_false_iff_ne.2 h0;simp only[bne,e0];cases w.Recipient==r <;> cases w.Busy <;> cases w.Result==1 <;> cases w.Result==3 <;> rfl
theorem q3b{α β:Type}{a:List α}{b:List β}{p:List (α × β)}{x:α × β}{r:List (α × β)}(h:a.zip b=p++x::r):a[p.length]? =some x.1/\b[p.length]? =some x.2:=by
 have:(a.zip b)[p.length]? =some x:=by rw[h];simp
 rw[List.getElem?_zip_eq_some]at this;exact this
theorem zjb{β:Type}(q:zda->Bool):∀{a:List zda} {b:List β},a.length=b.length->((a.zip b).any fun p=>q p.1)=a.any q
 | [],_,_=>by simp
 | x::a,[],h=>by simp at h
 | x::a,y::b,h=>by simp only[List.zip_cons_cons,List.any_cons];rw[zjb q (by simpa using h)]
theorem jxa(e:zba)(h:e.To.length<=1048576):qza e=some (Zsa e):=by
 unfold qza Zsa;by_cases hl:e.To.length=e.Mail.Envelope.To.length
 .rw[show ((e.To.length:Int) !=(e.Mail.Envelope.To.length:Int))=false by rw[hl];simp];simp only[cond_false];have hz:(e.To.zip e.Mail.Envelope.To).length=e.To.length:=by rw[List.length_zip];omega
  have hloop:iter (kSa e) (false,0)=some (if (e.To.zip e.Mail.Envelope.To).any (fun p=>wBad p.1 p.2) then .inr false else .inl (false || (e.To.zip e.Mail.Envelope.To).any fun p=>opnW p.1)):=by
   refine Kta (e.To.zip e.Mail.Envelope.To) (fun n s=>(s,(n:Int))) (fun n r s=>(if r.any (fun p=>wBad p.1 p.2) then .inr false else .inl (s || r.any fun p=>opnW p.1):Bool ⊕ Bool)) (fun s=>?_) (fun p x r s hp=>?_) false rfl
   .unfold kSa;dsimp only;rw[hz,zEa];simp
   obtain ⟨g1,g2⟩:=q3b hp;have hlt:=zGa g1;have hb:kSa e (s,(p.length:Int))=some (if wBad x.1 x.2 then .out (.inr false) else .cont (s || opnW x.1,((p.length+1:Nat):Int))):=by
    unfold kSa qHa;dsimp only;rw[zUa g1,zta g1,zta g2];simp only[cond_true,Option.bind_some,q2b,sc _ (show p.length < 9223372036854775807 by omega)];unfold opnW;cases wBad x.1 x.2 <;> cases s <;> rfl
   rw[hb];cases hw:wBad x.1 x.2 with
   | true=>left;simp[hw]
   | false=>right;exact ⟨_,rfl,by simp only[List.any_cons,hw,Bool.false_or,Bool.or_assoc]⟩
  rw[hloop];simp only[Bool.false_or,zjb opnW hl];rw[decide_eq_true hl];cases (e.To.zip e.Mail.Envelope.To).any (fun p=>wBad p.1 p.2) <;> rfl
 rw[show ((e.To.length:Int) !=(e.Mail.Envelope.To.length:Int))=true by simp;omega,decide_eq_false hl];rfl
theorem Vwa(e:zba)(h:e.To.length<=1048576):vPa e=some (if Zsa e then 0 else 5):=by
 unfold vPa Zsa;by_cases hl:e.To.length=e.Mail.Envelope.To.length
 .rw[show ((e.To.length:Int) !=(e.Mail.Envelope.To.length:Int))=false by rw[hl];simp];simp only[cond_false];have hz:(e.To.zip e.Mail.Envelope.To).length=e.To.length:=by rw[List.length_zip];omega
  have hloop:iter (qoa e) (0,0)=some (if (e.To.zip e.Mail.Envelope.To).any (fun p=>wBad p.1 p.2) then .inr 5 else .inl (0+(((e.To.zip e.Mail.Envelope.To).countP fun p=>opnW p.1:Nat):Int))):=by
   refine Wua (e.To.zip e.Mail.Envelope.To) (fun n (s:Int)=>(s,(n:Int))) (fun n r s=>(if r.any (fun p=>wBad p.1 p.2) then .inr 5 else .inl (s+((r.countP fun p=>opnW p.1:Nat):Int)):Int ⊕ Int)) (fun n r s=>0<=s/\s<=(n:Int)) (fun s _=>?_) (fun p x r s hp hi=>?_) 0 rfl (by simp)
   .unfold qoa;dsimp only;rw[hz,hl,zEa];simp
   obtain ⟨g1,g2⟩:=q3b hp;have hlt:=zGa g1;have hb:qoa e (s,(p.length:Int))=some (if wBad x.1 x.2 then .out (.inr 5) else .cont (if opnW x.1 then s+1 else s,((p.length+1:Nat):Int))):=by
    unfold qoa q1a;dsimp only;rw[zUa g2,zta g1,zta g2];simp only[cond_true,Option.bind_some,q2b,sc _ (show p.length < 9223372036854775807 by omega)];rw[vja (by omega) (by omega)];unfold opnW;cases wBad x.1 x.2 <;> cases x.1.Result==0 <;> rfl
   rw[hb];cases hw:wBad x.1 x.2 with
   | true=>left;simp[hw]
   | false=>
    right;refine ⟨_,rfl,?_,?_⟩
    .simp only[List.any_cons,hw,Bool.false_or,List.countP_cons];split
     .rfl
     cases opnW x.1 <;> simp <;> omega
    cases opnW x.1 <;> simp <;> omega
  rw[hloop];rw[decide_eq_true hl];have hc:(((e.To.zip e.Mail.Envelope.To).countP fun p=>opnW p.1:Nat):Int)=0↔e.To.any opnW=false:=by
   rw[<-zjb (b:=e.Mail.Envelope.To) opnW hl,List.any_eq_false];rw[show (((e.To.zip e.Mail.Envelope.To).countP fun p=>opnW p.1:Nat):Int)=0↔((e.To.zip e.Mail.Envelope.To).countP fun p=>opnW p.1)=0 by omega,List.countP_eq_zero]
  cases hb:(e.To.zip e.Mail.Envelope.To).any (fun p=>wBad p.1 p.2) with
  | true=>rfl
  | false=>
   simp only[Bool.false_eq_true,if_false,Option.bind_some,Sum.elim_inl,Int.zero_add];cases ho:e.To.any opnW with
   | false=>rw[hc.2 ho];rfl
   | true=>
    have:((((e.To.zip e.Mail.Envelope.To).countP fun p=>opnW p.1:Nat):Int)==0)=false:=by
     rw[beq_eq_false_iff_ne];intro h0;rw[hc.1 h0]at ho;cases ho
    rw[this];rfl
 rw[show ((e.To.length:Int) !=(e.Mail.Envelope.To.length:Int))=true by simp;omega,decide_eq_false hl];rfl
def yna(t:Int):Bool:=decide (-68719476736<=t) && decide (t<=68719476736)
theorem KFa(t:Int):wga t=some (yna t):=by unfold wga;rw[wha];rfl
def rngQ(e:zba):Bool:=yna e.Since && yna e.Due && decide (0<=e.Tries) && decide (e.Tries<=1000000)
def queR(nx:Int):Nat->Int->List zba->Option zpa
 | _,_,[]=>none
 | i,last,e::r=>if (yma e.Mail).Code !=0 then some ⟨(yma e.Mail).Code,i⟩ else if decide (e.Id<=last) || decide (nx<=e.Id) then some ⟨19,i⟩ else if !rngQ e then some ⟨3,i⟩ else if !Zsa e then some ⟨5,i⟩ else queR nx (i+1) e.Id r
theorem j3a(nx:Int)(i:Nat)(last:Int)(e:zba)(r:List zba):queR nx i last (e::r)=if (yma e.Mail).Code !=0 then some ⟨(yma e.Mail).Code,i⟩ else if decide (e.Id<=last) || decide (nx<=e.Id) then some ⟨19,i⟩ else if !rngQ e then some ⟨3,i⟩ else if !Zsa e then some ⟨5,i⟩ else queR nx (i+1) e.Id r:=rfl
def queF(q:zma):zpa:=if 20 < q.Entries.length then ⟨2, -1⟩ else if decide (q.Next < 0) || decide (1000000 < q.Next) then ⟨3, -2⟩ else (queR q.Next 0 (-1) q.Entries).getD ⟨0,0⟩
def yBa(q:zma):Prop:=q.Entries.length<=1048576/\∀e∈q.Entries,joa e.Mail/\e.To.length<=1048576
theorem vfa(q:zma)(h:yBa q):kGa q=some (queF q):=by
 unfold kGa queF;by_cases h20:20 < q.Entries.length
 .rw[decide_eq_true (show (20:Int) < (q.Entries.length:Int) by omega),if_pos h20];rfl
 rw[decide_eq_false (show ¬(20:Int) < (q.Entries.length:Int) by omega),if_neg h20];simp only[cond_false,Option.bind_some];have e1:((bif decide (q.Next < 0) then some true else some (decide (1000000 < q.Next))):Option Bool)=some (decide (q.Next < 0) || decide (1000000 < q.Next)):=by cases decide (q.Next < 0) <;> rfl
 rw[e1];simp only[Option.bind_some];cases hn:decide (q.Next < 0) || decide (1000000 < q.Next) with
 | true=>rfl
 | false=>
  simp only[cond_false,Bool.false_eq_true,if_false];have hloop:iter (kIa q) (-1,0)=some ((queR q.Next 0 (-1) q.Entries).elim (.inl ()) .inr):=by
   refine Kta q.Entries (fun n (s:Int)=>(s,(n:Int))) (fun n r s=>((queR q.Next n s r).elim (.inl ()) .inr:Unit ⊕ zpa)) (fun s=>?_) (fun p x r s hp=>?_) (-1) rfl
   .unfold kIa;dsimp only;rw[zEa];rfl
   have hx:q.Entries[p.length]? =some x:=by rw[hp];simp
   have hlt:=zGa hx;obtain ⟨⟨m1,m2⟩,m3⟩:=h.2 x (List.mem_of_getElem? hx);have hb:kIa q (s,(p.length:Int))=some (if (yma x.Mail).Code !=0 then .out (.inr ⟨(yma x.Mail).Code,p.length⟩) else if decide (x.Id<=s) || decide (q.Next<=x.Id) then .out (.inr ⟨19,p.length⟩) else if !rngQ x then .out (.inr ⟨3,p.length⟩) else if !Zsa x then .out (.inr ⟨5,p.length⟩) else .cont (x.Id,((p.length+1:Nat):Int))):=by
    unfold kIa;dsimp only;rw[zUa hx,zta hx];simp only[cond_true,Option.bind_some,y5a x.Mail m1 m2,kga,zOa,v7a,jxa x m3,sc _ (show p.length < 9223372036854775807 by omega)];have e2:decide (x.Tries < 0)= !decide (0<=x.Tries):=by rw[Bool.eq_iff_iff];simp
    have e3:decide ((1000000:Int) < x.Tries)= !decide (x.Tries<=1000000):=by rw[Bool.eq_iff_iff];simp
    rw[e2,e3];unfold rngQ yna;cases (yma x.Mail).Code !=0 <;> cases decide (x.Id<=s) <;> cases decide (q.Next<=x.Id) <;> cases (decide (-68719476736<=x.Since) && decide (x.Since<=68719476736)) <;> cases (decide (-68719476736<=x.Due) && decide (x.Due<=68719476736)) <;> cases decide (0<=x.Tries) <;> cases decide (x.Tries<=1000000) <;> cases Zsa x <;> rfl
   rw[hb,j3a];split
   .exact .inl rfl
   split
   .exact .inl rfl
   split
   .exact .inl rfl
   split
   .exact .inl rfl
   exact .inr ⟨_,rfl,rfl⟩
  rw[hloop];cases queR q.Next 0 (-1) q.Entries <;> rfl
theorem jya(q:zma)(h:yBa q):vea q=some (queF q):=by
 unfold vea queF;by_cases h20:20 < q.Entries.length
 .rw[decide_eq_true (show (20:Int) < (q.Entries.length:Int) by omega),if_pos h20];rfl
 rw[decide_eq_false (show ¬(20:Int) < (q.Entries.length:Int) by omega),if_neg h20];simp only[cond_false,wha,Option.bind_some,jna];have e1:(!(decide (0<=q.Next) && decide (q.Next<=1000000)))=(decide (q.Next < 0) || decide (1000000 < q.Next)):=by
  rw[Bool.eq_iff_iff];simp
 rw[e1];cases hn:decide (q.Next < 0) || decide (1000000 < q.Next) with
 | true=>rfl
 | false=>
  simp only[cond_false,Bool.false_eq_true,if_false];have hnx:0<=q.Next/\q.Next<=1000000:=by simp at hn;omega
  have hloop:iter (kTa q) (-1,0)=some ((queR q.Next 0 (-1) q.Entries).elim (.inl ()) .inr):=by
   refine Wua q.Entries (fun n (s:Int)=>(s,(n:Int))) (fun n r s=>((queR q.Next n s r).elim (.inl ()) .inr:Unit ⊕ zpa)) (fun n r s=> -1<=s/\s<=1000000) (fun s _=>?_) (fun p x r s hp hi=>?_) (-1) rfl (by omega)
   .unfold kTa;dsimp only;rw[zEa];rfl
   have hx:q.Entries[p.length]? =some x:=by rw[hp];simp
   have hlt:=zGa hx;obtain ⟨⟨m1,m2⟩,m3⟩:=h.2 x (List.mem_of_getElem? hx);have hb:kTa q (s,(p.length:Int))=some (if (yma x.Mail).Code !=0 then .out (.inr ⟨(yma x.Mail).Code,p.length⟩) else if decide (x.Id<=s) || decide (q.Next<=x.Id) then .out (.inr ⟨19,p.length⟩) else if !rngQ x then .out (.inr ⟨3,p.length⟩) else if !Zsa x then .out (.inr ⟨5,p.length⟩) else .cont (x.Id,((p.length+1:Nat):Int))):=by
    unfold kTa;dsimp only;rw[zUa hx,zta hx];simp only[cond_true,Option.bind_some,ZIa x.Mail m1 m2,jna,wha,KFa,Vwa x m3,sc _ (show p.length < 9223372036854775807 by omega)];rw[vja (n:=s+1) (by omega) (by omega),vja (n:=q.Next - 1) (by omega) (by omega)];have e2:(!(decide (s+1<=x.Id) && decide (x.Id<=q.Next - 1)))=(decide (x.Id<=s) || decide (q.Next<=x.Id)):=by rw[Bool.eq_iff_iff];simp;omega
    rw[e2];unfold rngQ;cases (yma x.Mail).Code !=0 <;> cases decide (x.Id<=s) || decide (q.Next<=x.Id) <;> cases yna x.Since <;> cases yna x.Due <;> cases decide (0<=x.Tries) <;> cases decide (x.Tries<=1000000) <;> cases Zsa x <;> rfl
   rw[hb,j3a];split
   .exact .inl rfl
   split
   .exact .inl rfl
   split
   .exact .inl rfl
   split
   .exact .inl rfl
   rename_i h1 h2 h3 h4;refine .inr ⟨_,rfl,rfl,?_⟩;simp at h2;omega
  rw[hloop];cases queR q.Next 0 (-1) q.Entries <;> rfl
def zkb(l:List zba):Prop:=l.length<=1048576/\∀e∈l,joa e.Mail/\e.To.length<=1048576
theorem q3a(l:List zba)(h:l.length<=1048576):zFa l=some l:=KDa l (by omega)
theorem jpa(l:List zda)(h:l.length<=1048576):zya l=some l:=KDa l (by omega)
theorem Vxa(L:List zba)(h:zkb L):iter (wCa L) (0,0,L)=some (L,L.length):=by
 refine Kta L (fun n (_:Unit)=>((n:Int),n,L)) (fun n r _=>(L,L.length)) (fun _=>?_) (fun p x r _ hp=>.inr ⟨(),?_,rfl⟩) () rfl
 .unfold wCa;dsimp only;rw[zEa];rfl
 have hx:L[p.length]? =some x:=by rw[hp];simp
 have hlt:=zGa hx;have h0:=h.1;obtain ⟨h1,h2⟩:=h.2 x (List.mem_of_getElem? hx);unfold wCa;dsimp only;rw[zUa hx,zta hx];simp only[cond_true,Option.bind_some,y6a x.Mail h1,jpa x.To h2,Woa,kqb,Int.toNat_natCast,Nat.le_refl,if_true,Yva hx,zta hx,sc _ (show p.length < 9223372036854775807 by omega)]
theorem kFb(q:zma)(h:zkb q.Entries):iter (vHa q) (0,0,([]:List zba))=some (q.Entries,q.Entries.length):=by
 have:∀r p,q.Entries=p++r->iter (vHa q) ((p.length:Int),p.length,p)=some (q.Entries,q.Entries.length):=by
  intro r;induction r with
  | nil=>
   intro p hp;obtain rfl:q.Entries=p:=by simpa using hp
   refine zIa ?_;unfold vHa;dsimp only;rw[zEa];rfl
  | cons x r ih=>
   intro p hp;have hx:q.Entries[p.length]? =some x:=by rw[hp];simp
   have hlt:=zGa hx;have h0:=h.1;obtain ⟨h1,h2⟩:=h.2 x (List.mem_of_getElem? hx);have hb:vHa q ((p.length:Int),p.length,p)=some (.cont (((p.length+1:Nat):Int),p.length+1,p++ [x])):=by
    unfold vHa;dsimp only;rw[zUa hx,zta hx];simp only[cond_true,Option.bind_some];rw[qPa (by simp;omega)];simp only[Option.bind_some,List.nil_append,nall,if_true];rw[qPa (by simp;omega)];simp only[Option.bind_some,sc _ (show p.length < 9223372036854775807 by omega)]
   rw[zVa hb];have:=ih (p++ [x]) (by simp[hp]);simpa using this
 exact this q.Entries [] rfl
theorem Vya(m:z0a)(h:m.Envelope.To.length<=1048576):iter (vOa m) (0,([]:List zda))=some (m.Envelope.To.map fun r=>⟨r,0,false⟩):=by
 have:=(Kua m.Envelope.To (fun i acc=>(i,acc)) (fun acc r=>acc++ [(⟨r,0,false⟩:zda)]) (fun acc=>acc) (fun i acc=>acc.length=i) (body:=vOa m) (fun s hs=>by unfold vOa;simp[zEa]) (fun i r acc hr hi=>by
  have hlt:=zGa hr;refine ⟨?_,by simp[hi]⟩;unfold vOa;dsimp only;rw[zUa hr,zta hr];simp only[cond_true,Option.bind_some,sc i (by omega)];rw[qPa (by simp;omega)];rfl) ([]:List zda) rfl).1
 rw[this,zOb (fun r=>(⟨r,0,false⟩:zda))];rfl
def newE(q:zma)(m:z0a)(now:Int):zba:=⟨q.Next,m,now,0,now,m.Envelope.To.map fun r=>⟨r,0,false⟩⟩
def addP(q:zma)(m:z0a)(now:Int):zma × Int × zpa:=
 if (queF q).Code !=0 then (⟨[],0⟩,0,queF q) else if (yma m).Code !=0 then (⟨[],0⟩,0,⟨(yma m).Code, -6⟩) else if !yna now then (⟨[],0⟩,0,⟨3, -7⟩) else
 if q.Entries.length=20∨q.Next=1000000 then (⟨[],0⟩,0,⟨2, -8⟩) else (⟨q.Entries++ [newE q m now],q.Next+1⟩,q.Next,⟨0,0⟩)
theorem Vza{nx:Int}:∀{l:List zba} {i:Nat} {last:Int},queR nx i last l=none->∀e∈l,(yma e.Mail).Code=0/\last < e.Id/\e.Id < nx/\rngQ e=true/\Zsa e=true
 | [],_,_,_,e,he=>by cases he
 | x::l,i,last,h,e,he=>by
  rw[j3a]at h;split at h
  .cases h
  rename_i h1;split at h
  .cases h
  rename_i h2;split at h
  .cases h
  rename_i h3;split at h
  .cases h
  rename_i h4;simp at h1 h2 h3 h4;rcases List.mem_cons.1 he with rfl | he
  .exact ⟨h1,by omega,by omega,h3,h4⟩
  obtain ⟨a,b,c⟩:=Vza h e he;exact ⟨a,by omega,c⟩
theorem zPb{nx:Int}:∀{l:List zba} {i:Nat} {last:Int},queR nx i last l=none->l.Pairwise (fun a b=>a.Id < b.Id)
 | [],_,_,_=>List.Pairwise.nil
 | x::l,i,last,h=>by
  rw[j3a]at h;split at h
  .cases h
  split at h
  .cases h
  split at h
  .cases h
  split at h
  .cases h
  exact List.pairwise_cons.2 ⟨fun e he=>(Vza h e he).2.1,zPb h⟩
structure QueOk (q:zma):Prop where
 n:q.Entries.length<=20
 nx:0<=q.Next/\q.Next<=1000000
 ent:∀e∈q.Entries,(yma e.Mail).Code=0/\0<=e.Id/\e.Id < q.Next/\rngQ e=true/\Zsa e=true
 ids:q.Entries.Pairwise (fun a b=>a.Id < b.Id)
theorem ZZa{q:zma}(h:(queF q).Code=0):QueOk q/\queF q=⟨0,0⟩:=by
 unfold queF at h ⊢;by_cases h20:20 < q.Entries.length
 .rw[if_pos h20]at h;cases h
 rw[if_neg h20]at h ⊢;cases hn:decide (q.Next < 0) || decide (1000000 < q.Next) with
 | true=>rw[hn]at h;cases h
 | false=>
  rw[hn]at h;simp only[Bool.false_eq_true,if_false]at h ⊢;cases hr:queR q.Next 0 (-1) q.Entries with
  | none=>
   refine ⟨⟨by omega,by simp at hn;omega,fun e he=>?_,zPb hr⟩,rfl⟩;obtain ⟨a,b,c⟩:=Vza hr e he;exact ⟨a,by omega,c⟩
  | some f=>
   exfalso;rw[hr]at h;simp only[Option.getD_some]at h;have aux:∀(l:List zba) (i:Nat) (last:Int),queR q.Next i last l=some f->f.Code≠0:=by
    intro l;induction l with
    | nil=>intro i last hh;cases hh
    | cons x l ih=>
     intro i last hh;rw[j3a]at hh;split at hh
     .rename_i h1;cases hh;simpa using h1
     split at hh
     .cases hh;show (19:Int)≠0;decide
     split at hh
     .cases hh;show (3:Int)≠0;decide
     split at hh
     .cases hh;show (5:Int)≠0;decide
     exact ih _ _ hh
   exact aux _ _ _ hr h
theorem Qqa(q:zma)(m:z0a)(now:Int)(hq:yBa q)(hm:joa m):yZa q m now=some (addP q m now):=by
 unfold yZa addP;rw[vfa q hq];simp only[Option.bind_some,kga,zOa,kwa,v7a];by_cases hc:(queF q).Code=0
 .obtain ⟨ok,hF⟩:=ZZa hc;have h1:((queF q).Code !=0)=false:=by simp[hc]
  have hn:=ok.n;have hnx:=ok.nx;have hto:=hm.1.2.2.1;rw[h1,y5a m hm.1 hm.2];simp only[Option.bind_some,cond_false,Bool.false_eq_true,if_false];cases hmc:(yma m).Code !=0 with
  | true=>rfl
  | false=>
   simp only[cond_false,Bool.false_eq_true,if_false];show (bif !yna now then _ else _)=_;cases yna now with
   | false=>rfl
   | true=>
    simp only[Bool.not_true,cond_false,Bool.false_eq_true,if_false];have e1:((bif ((q.Entries.length:Int)==20) then some true else some ((q.Next==1000000))):Option Bool)=some (decide (q.Entries.length=20∨q.Next=1000000)):=by
     by_cases h20:q.Entries.length=20
     .rw[h20];simp
     rw[show ((q.Entries.length:Int)==20)=false by rw[beq_eq_false_iff_ne];omega];simp only[cond_false,Option.some.injEq];rw[Bool.eq_iff_iff];simp[h20]
    rw[e1];simp only[Option.bind_some];by_cases hl:q.Entries.length=20∨q.Next=1000000
    .rw[decide_eq_true hl,if_pos hl];rfl
    rw[decide_eq_false hl,if_neg hl];simp only[cond_false];rw[q3a _ hq.1];simp only[Option.bind_some];rw[Vxa _ hq];simp only[Option.bind_some];rw[y6a m hm,Vya m hto];simp only[Option.bind_some,nall,if_true];rw[qPa (by simp;omega),vja (by omega) (by omega)];rfl
 have h1:((queF q).Code !=0)=true:=by simpa using hc
 rw[h1];rfl
theorem zlb(q:zma)(m:z0a)(now:Int)(hq:yBa q)(hm:joa m):Kra q m now=some (addP q m now):=by
 unfold Kra addP;rw[jya q hq];simp only[Option.bind_some,jna,KFa];by_cases hc:(queF q).Code=0
 .obtain ⟨ok,hF⟩:=ZZa hc;have h1:((queF q).Code !=0)=false:=by simp[hc]
  have h2:((queF q).Code==0)=true:=by simp[hc]
  have hn:=ok.n;have hnx:=ok.nx;have hto:=hm.1.2.2.1;rw[h1,h2,hF,ZIa m hm.1 hm.2];simp only[Option.bind_some,cond_true,Bool.false_eq_true,if_false];by_cases hmc0:(yma m).Code=0
  .have hmc:((yma m).Code !=0)=false:=by simp[hmc0]
   rw[hmc];simp only[cond_false,Option.bind_some,beq_self_eq_true,cond_true,Bool.false_eq_true,if_false];cases yna now with
   | false=>rfl
   | true=>
    simp only[Bool.not_true,cond_false,Bool.false_eq_true,if_false,Option.bind_some,beq_self_eq_true,cond_true];have e1:((bif ((q.Entries.length:Int)==20) then some true else some ((q.Next==1000000))):Option Bool)=some (decide (q.Entries.length=20∨q.Next=1000000)):=by
     by_cases h20:q.Entries.length=20
     .rw[h20];simp
     rw[show ((q.Entries.length:Int)==20)=false by rw[beq_eq_false_iff_ne];omega];simp only[cond_false,Option.some.injEq];rw[Bool.eq_iff_iff];simp[h20]
    rw[e1];simp only[Option.bind_some];by_cases hl:q.Entries.length=20∨q.Next=1000000
    .rw[decide_eq_true hl,if_pos hl];rfl
    rw[decide_eq_false hl,if_neg hl];simp only[cond_false,Option.bind_some,bne_self_eq_false];rw[kFb _ hq];simp only[Option.bind_some];rw[show iter (ZVa m) (0,([]:List zda))=some (m.Envelope.To.map fun r=>⟨r,0,false⟩) from Vya m hto];simp only[Option.bind_some,nall,if_true];rw[qPa (by simp;omega),vja (by omega) (by omega)];rfl
  have hmc:((yma m).Code !=0)=true:=by simpa using hmc0
  have hmc2:((yma m).Code==0)=false:=by simpa using hmc0
  rw[hmc];simp only[cond_true,Option.bind_some,hmc2,cond_false,hmc];rfl
 have h1:((queF q).Code !=0)=true:=by simpa using hc
 have h2:((queF q).Code==0)=false:=by simpa using hc
 rw[h1,h2];simp only[cond_false,Option.bind_some,h2,h1,cond_true];rfl
theorem Qaa(q:zma)(h:yBa q):wDa q q=some true:=by
 unfold wDa;simp only[bne_self_eq_false,cond_false,Option.bind_some];rw[zKa q.Entries (fun _ _=>(none:Option Bool)) (.inl ()) .inr]
 .rw[qBa.2 (fun _ _ _=>rfl)];rfl
 .unfold v6a;rw[zEa];rfl
 intro i e he;have hi:=zGa he;have h0:=h.1;obtain ⟨⟨m1,m2⟩,m3⟩:=h.2 e (List.mem_of_getElem? he);have hl2:iter (q2a e e) 0=some (.inl ()):=by
  rw[zKa e.To (fun _ _=>(none:Option Bool)) (.inl ()) .inr]
  .rw[qBa.2 (fun _ _ _=>rfl)];rfl
  .unfold q2a;rw[zEa];rfl
  intro k w hw;have hk:=zGa hw;unfold q2a;rw[zUa hw,zta hw];simp only[cond_true,Option.bind_some,beq_self_eq_true,sc k (by omega)];rfl
 unfold v6a;rw[zUa he,zta he];simp only[cond_true,Option.bind_some,bne_self_eq_false,cond_false];rw[Vva e.Mail m1.2.2.1 m2.1.1];simp only[Option.bind_some,Bool.not_true,cond_false,hl2,Sum.elim_inl,sc i (by omega)];rfl
theorem Qba{a b:zba}:ltE a b=true↔a.Due < b.Due∨a.Due=b.Due/\a.Id < b.Id:=by unfold ltE;simp
theorem zmb{a b:zba}:ltE a b=false↔¬(a.Due < b.Due∨a.Due=b.Due/\a.Id < b.Id):=by rw[<-Qba];simp
theorem q4b{a b:zba}(h:ltE a b=true):ltE b a=false:=by rw[Qba]at h;rw[zmb];omega
theorem WEa{a b c:zba}(h1:ltE a b=false)(h2:ltE b c=false):ltE a c=false:=by rw[zmb]at *;omega
theorem VAa(x:zba):∀l:List zba,(insE x l).Perm (x::l)
 | []=>List.Perm.refl _
 | y::l=>by
  unfold insE;cases ltE y x with
  | true=>exact ((VAa x l).cons y).trans (List.Perm.swap x y l)
  | false=>exact List.Perm.refl _
theorem y7a:∀l:List zba,(yJa l).Perm l
 | []=>List.Perm.refl _
 | x::l=>(VAa x (yJa l)).trans ((y7a l).cons x)
theorem VBa(x:zba):∀l:List zba,l.Pairwise (fun a b=>ltE b a=false)->(insE x l).Pairwise (fun a b=>ltE b a=false)
 | [],_=>by simp[insE]
 | y::l,h=>by
  obtain ⟨h1,h2⟩:=List.pairwise_cons.1 h;unfold insE;cases hyx:ltE y x with
  | true=>
   refine List.pairwise_cons.2 ⟨fun z hz=>?_,VBa x l h2⟩;rcases List.mem_cons.1 ((VAa x l).mem_iff.1 hz) with rfl | hz
   .exact q4b hyx
   exact h1 z hz
  | false=>
   refine List.pairwise_cons.2 ⟨fun z hz=>?_,h⟩;rcases List.mem_cons.1 hz with rfl | hz
   .exact hyx
   exact WEa (h1 z hz) hyx
theorem Qra:∀l:List zba,(yJa l).Pairwise (fun a b=>ltE b a=false)
 | []=>List.Pairwise.nil
 | x::l=>VBa x _ (Qra l)
theorem Jka:∀{l:List zba},VXa l=true->∀x∈l,∀y∈l,ltE x y=false->ltE y x=false->x=y
 | [],_,x,hx,_,_,_,_=>by cases hx
 | a::l,h,x,hx,y,hy,h1,h2=>by
  unfold VXa at h;rw[Bool.and_eq_true,List.all_eq_true]at h;rcases List.mem_cons.1 hx with rfl | hx' <;> rcases List.mem_cons.1 hy with rfl | hy'
  .rfl
  .have:=h.1 y hy';rw[h1,h2]at this;cases this
  .have:=h.1 x hx';rw[h1,h2]at this;cases this
  exact Jka h.2 x hx' y hy' h1 h2
theorem ZJa:∀{a b:List zba},a.Perm b->a.Pairwise (fun a b=>ltE b a=false)->b.Pairwise (fun a b=>ltE b a=false)->(∀x∈a,∀y∈a,ltE x y=false->ltE y x=false->x=y)->a=b
 | [],b,h,_,_,_=>(List.nil_perm.1 h).symm
 | x::a,[],h,_,_,_=>by have:=h.length_eq;simp at this
 | x::a,y::b,h,ha,hb,ht=>by
  obtain ⟨a1,a2⟩:=List.pairwise_cons.1 ha;obtain ⟨b1,b2⟩:=List.pairwise_cons.1 hb;have hxy:x=y:=by
   rcases List.mem_cons.1 (h.mem_iff.1 (List.mem_cons_self (a:=x))) with e | hxb
   .exact e
   have hy:y∈x::a:=h.mem_iff.2 List.mem_cons_self;rcases List.mem_cons.1 hy with e | hya
   .exact e.symm
   exact ht x List.mem_cons_self y hy (b1 x hxb) (a1 y hya)
  subst hxy;rw[ZJa (List.Perm.cons_inv h) a2 b2 fun u hu v hv=>ht u (List.mem_cons_of_mem _ hu) v (List.mem_cons_of_mem _ hv)]
theorem znb{l l' :List zba}(hp:l'.Perm l)(hs:l'.Pairwise (fun a b=>ltE b a=false))(h:VXa l=true):l' =yJa l:=
 ZJa (hp.trans (y7a l).symm) hs (Qra l) fun x hx y hy=>Jka h x (hp.mem_iff.1 hx) y (hp.mem_iff.1 hy)
theorem Zoa{K V:Type}[BEq K][LawfulBEq K](m:List (K × V))(k:K)(v:V)(x:K):mget (mput m k v) x=if k==x then some v else mget m x:=by
 induction m with
 | nil=>rfl
 | cons p m ih=>
  obtain ⟨k',v'⟩:=p;unfold mput;by_cases h:k' =k
  .subst h;simp only[beq_self_eq_true,if_true,mget];cases k' ==x <;> simp
  have h1:(k' ==k)=false:=by simpa using h
  rw[h1];simp only[Bool.false_eq_true,if_false,mget];rw[ih];by_cases h2:k' =x
  .subst h2;have:(k==k')=false:=by simpa using fun h' =>h h'.symm
   simp[this]
  have:(k' ==x)=false:=by simpa using h2
  rw[this];simp
def wDom(w:zda):Str:=Yta w.Recipient.Address
def Z0a(l:List zda):Prop:=l.length<=1048576/\∀w∈l,w.Recipient.Address.length<=1048576
def uwL(l:List zda)(d:Str):Bool:=l.any fun w=>w.Busy && wDom w==d
def uwP(e:zba)(d:Str):Bool:=uwL e.To d
def wka(l:List zba)(d:Str):Nat:=l.countP fun e=>uwP e d
def vwa(d:Str):Nat->List zda->List Int
 | _,[]=>[]
 | n,w::r=>if opnW w && wDom w==d then (n:Int)::vwa d (n+1) r else vwa d (n+1) r
theorem Qsa(d:Str)(r:List zda):∀(p:List zda) (n:Nat),vwa d n (p++r)=vwa d n p++vwa d (n+p.length) r
 | [],n=>by simp[vwa]
 | w::p,n=>by
  simp only[List.cons_append,vwa];rw[Qsa d r p (n+1),show n+1+p.length=n+(w::p).length by simp;omega];split <;> simp
theorem Jla(d:Str):∀(r:List zda) (n:Nat),(vwa d n r).length<=r.length
 | [],_=>Nat.le_refl _
 | w::r,n=>by
  have:=Jla d r (n+1);unfold vwa;split <;> simp <;> omega
def j4a(D:List Str):List zda->List Str
 | []=>[]
 | w::r=>if opnW w && !D.contains (wDom w) then wDom w::j4a (D++ [wDom w]) r else j4a D r
theorem q5b(r:List zda):∀D,(j4a D r).length<=r.length:=by
 induction r with
 | nil=>intro D;exact Nat.le_refl _
 | cons w r ih=>
  intro D;unfold j4a;split
  .have:=ih (D++ [wDom w]);simp;omega
  have:=ih D;simp;omega
theorem yoa(s:Str)(h:s.length<=1048576):qra s=some (Yta s):=by
 unfold qra;rw[y4a s (by omega)];simp only[Option.bind_some,kCb]
theorem Jma(l:List zba)(d:Str):wka l d<=l.length:=List.countP_le_length
theorem kGb(e:zba)(h:Z0a e.To)(u0:List ((Int × Str) × Bool))(m0:List (Str × Int))(hu:∀d,(mget u0 (e.Id,d)).getD false=false)(hm:∀d,0<=(mget m0 d).getD 0/\(mget m0 d).getD 0<=1048576):
 ∃u m,iter (k2a e) (0,u0,m0)=some (u,m)/\(∀id d,(mget u (id,d)).getD false=(id==e.Id && uwP e d || (mget u0 (id,d)).getD false))/\∀d,(mget m d).getD 0=(mget m0 d).getD 0+(if uwP e d then 1 else 0):=by
 have h0:=h.1;have key:∀r p u m,e.To=p++r->(∀id d,(mget u (id,d)).getD false=(id==e.Id && uwL p d || (mget u0 (id,d)).getD false))->(∀d,(mget m d).getD 0=(mget m0 d).getD 0+(if uwL p d then 1 else 0))->
  ∃u2 m2,iter (k2a e) ((p.length:Int),u,m)=some (u2,m2)/\(∀id d,(mget u2 (id,d)).getD false=(id==e.Id && uwP e d || (mget u0 (id,d)).getD false))/\∀d,(mget m2 d).getD 0=(mget m0 d).getD 0+(if uwP e d then 1 else 0):=by
  intro r;induction r with
  | nil=>
   intro p u m hp h1 h2;obtain rfl:e.To=p:=by simpa using hp
   refine ⟨u,m,zIa ?_,h1,h2⟩;unfold k2a;dsimp only;rw[zEa];rfl
  | cons w r ih=>
   intro p u m hp h1 h2;have hx:e.To[p.length]? =some w:=by rw[hp];simp
   have hlt:=zGa hx;have hun:∀d,uwL (p++ [w]) d=(uwL p d || (w.Busy && wDom w==d)):=fun d=>by unfold uwL;simp
   have hb:k2a e ((p.length:Int),u,m)=some (.cont (((p.length+1:Nat):Int),if w.Busy && !uwL p (wDom w) then mput u (e.Id,wDom w) true else u,if w.Busy && !uwL p (wDom w) then mput m (wDom w) ((mget m (wDom w)).getD 0+1) else m)):=by
    unfold k2a;dsimp only;rw[zUa hx,zta hx];simp only[cond_true,Option.bind_some,yoa _ (h.2 w (List.mem_of_getElem? hx)),sc _ (show p.length < 9223372036854775807 by omega)];have e1:(mget u (e.Id,Yta w.Recipient.Address)).getD false=uwL p (wDom w):=by
     have:=h1 e.Id (wDom w);rw[hu]at this;have h3:(mget u (e.Id,wDom w)).getD false=uwL p (wDom w):=by simpa using this
     exact h3
    rw[e1];have e2:w64 ((mget m (Yta w.Recipient.Address)).getD 0+1)=(mget m (wDom w)).getD 0+1:=by
     have:=h2 (wDom w);have:=hm (wDom w);refine vja ?_ ?_
     .show _<=(mget m (wDom w)).getD 0+1;split at * <;> omega
     show (mget m (wDom w)).getD 0+1<=_;split at * <;> omega
    rw[e2];cases w.Busy <;> cases uwL p (wDom w) <;> rfl
   rw[zVa hb];have:=ih (p++ [w]) (if w.Busy && !uwL p (wDom w) then mput u (e.Id,wDom w) true else u) (if w.Busy && !uwL p (wDom w) then mput m (wDom w) ((mget m (wDom w)).getD 0+1) else m) (by simp[hp]) (fun id d=>by
    rw[hun];cases hc:w.Busy && !uwL p (wDom w) with
    | true=>
     simp only[Bool.and_eq_true,Bool.not_eq_true']at hc;rw[if_pos rfl,Zoa];by_cases hk:(e.Id,wDom w)=(id,d)
     .cases hk;simp[hc.1]
     have hk' :((e.Id,wDom w)==(id,d))=false:=beq_eq_false_iff_ne.2 hk;rw[hk'];simp only[Bool.false_eq_true,if_false];rw[h1];by_cases hi:id=e.Id
     .subst hi;have hd:(wDom w==d)=false:=beq_eq_false_iff_ne.2 fun h=>hk (by rw[h])
      simp[hd]
     have:(id==e.Id)=false:=beq_eq_false_iff_ne.2 hi;simp[this]
    | false=>
     rw[if_neg (by decide),h1];cases hbz:w.Busy with
     | false=>simp
     | true=>
      rw[hbz]at hc;simp only[Bool.true_and,Bool.not_eq_eq_eq_not,Bool.not_false]at hc;by_cases hd:wDom w=d
      .subst hd;simp[hc]
      have:(wDom w==d)=false:=beq_eq_false_iff_ne.2 hd;simp[this]) (fun d=>by
    rw[hun];cases hc:w.Busy && !uwL p (wDom w) with
    | true=>
     simp only[Bool.and_eq_true,Bool.not_eq_true']at hc;rw[if_pos rfl,Zoa];by_cases hk:wDom w=d
     .subst hk;simp only[beq_self_eq_true,if_true,Option.getD_some];rw[h2,hc.1,hc.2];simp
     have hk' :(wDom w==d)=false:=beq_eq_false_iff_ne.2 hk;rw[hk'];simp only[Bool.false_eq_true,if_false];rw[h2];simp
    | false=>
     rw[if_neg (by decide),h2];cases hbz:w.Busy with
     | false=>simp
     | true=>
      rw[hbz]at hc;simp only[Bool.true_and,Bool.not_eq_eq_eq_not,Bool.not_false]at hc;by_cases hd:wDom w=d
      .subst hd;simp[hc]
      have:(wDom w==d)=false:=beq_eq_false_iff_ne.2 hd;simp[this])
   simpa using this
 exact key e.To [] u0 m0 rfl (fun id d=>by simp[uwL]) (fun d=>by simp[uwL])
theorem q6b(q:zma)(hl:q.Entries.length<=20)(h:∀e∈q.Entries,Z0a e.To)(hid:q.Entries.Pairwise (fun a b=>a.Id < b.Id)):
 ∃u m,iter (k3a q) (0,([]:List ((Int × Str) × Bool)),([]:List (Str × Int)))=some (u,m)/\(∀id d,(mget u (id,d)).getD false=q.Entries.any fun e=>id==e.Id && uwP e d)/\∀d,(mget m d).getD 0=(wka q.Entries d:Int):=by
 have key:∀r p u m,q.Entries=p++r->(∀id d,(mget u (id,d)).getD false=p.any fun e=>id==e.Id && uwP e d)->(∀d,(mget m d).getD 0=(wka p d:Int))->
  ∃u2 m2,iter (k3a q) ((p.length:Int),u,m)=some (u2,m2)/\(∀id d,(mget u2 (id,d)).getD false=q.Entries.any fun e=>id==e.Id && uwP e d)/\∀d,(mget m2 d).getD 0=(wka q.Entries d:Int):=by
  intro r;induction r with
  | nil=>
   intro p u m hp h1 h2;have hp' :q.Entries=p:=by simpa using hp
   refine ⟨u,m,zIa ?_,by rw[hp'];exact h1,by rw[hp'];exact h2⟩;unfold k3a;dsimp only;rw[<-hp',zEa];rfl
  | cons e r ih=>
   intro p u m hp h1 h2;have hx:q.Entries[p.length]? =some e:=by rw[hp];simp
   have hlt:=zGa hx;obtain ⟨u',m',hin,i1,i2⟩:=kGb e (h e (List.mem_of_getElem? hx)) u m (fun d=>by
    rw[h1,List.any_eq_false];intro x hxp hc;rw[hp,List.pairwise_append]at hid;have:=hid.2.2 x hxp e (by simp);simp at hc;omega) (fun d=>by
    rw[h2];have:=Jma p d;have:p.length<=20:=by rw[hp]at hl;simp at hl;omega
    omega)
   have hb:k3a q ((p.length:Int),u,m)=some (.cont (((p.length+1:Nat):Int),u',m')):=by
    unfold k3a;dsimp only;rw[zUa hx,zta hx];simp only[cond_true,Option.bind_some,hin,sc _ (show p.length < 9223372036854775807 by omega)]
   rw[zVa hb];have:=ih (p++ [e]) u' m' (by simp[hp]) (fun id d=>by
    rw[i1,h1,List.any_append];simp[Bool.or_comm]) (fun d=>by
    have e1:wka (p++ [e]) d=wka p d+(if uwP e d then 1 else 0):=by
     unfold wka;rw[List.countP_append,List.countP_cons,List.countP_nil];simp
    rw[i2,h2,e1];split <;> simp)
   simpa using this
 exact key q.Entries [] [] [] rfl (fun id d=>by simp[mget]) (fun d=>by simp[mget,wka])
section
section
variable {α:Type} (key:α->Int)
end
end
theorem kHb{α:Type}(L:List α)(n:Nat)(z:α)(h:n<=L.length):(clr0 L n z).take n=L.take n:=by
 unfold clr0;rw[List.take_append_of_le_length (by simp;omega),List.take_take,Nat.min_self]
theorem kIb{α:Type}(keep:α->Bool):∀(r:List α) (n:Nat) (j:Int),zTa (fun i x=>if !keep x then some ((i:Nat):Int) else none) n r=some j->∃m:Nat,j=((n+m:Nat):Int)/\∃x,r[m]? =some x/\keep x=false/\∀y∈r.take m,keep y=true:=by
 intro r;induction r with
 | nil=>intro n j hj;cases hj
 | cons y r ih=>
  intro n j hj;unfold zTa at hj;cases hy:keep y with
  | false=>rw[hy]at hj;simp at hj;exact ⟨0,by omega,y,rfl,hy,by simp⟩
  | true=>
   rw[hy]at hj;simp only[Bool.not_true,Bool.false_eq_true,if_false]at hj;obtain ⟨m,h1,x,h2,h3,h4⟩:=ih (n+1) j hj;refine ⟨m+1,by omega,x,by simpa using h2,h3,fun z hz=>?_⟩;rw[List.take_succ_cons]at hz;rcases List.mem_cons.1 hz with rfl | hz
   .exact hy
   exact h4 z hz
theorem del_eq{α:Type}(keep:α->Bool)(L:List α)(z:α)(hl:L.length<=1048576){b1:Int->Option (Step Int (Unit ⊕ Int))}{b2:Int × Int × List α->Option (Step (Int × Int × List α) (Int × List α))}
 (h10:b1 (L.length:Int)=some (.out (.inl ()))) (h11:∀(i:Nat) x,L[i]? =some x->b1 (i:Int)=some (bif keep x then .cont ((i+1:Nat):Int) else .out (.inr (i:Int))))
 (h20:∀i M,M.length=L.length->b2 (i,(L.length:Int),M)=some (.out (i,M)))
 (h21:∀(i k:Nat) (M:List α) x,M.length=L.length->M[k]? =some x->i < k->b2 ((i:Int),(k:Int),M)=some (.cont (bif keep x then (((i+1:Nat):Int),((k+1:Nat):Int),M.set i x) else ((i:Int),((k+1:Nat):Int),M)))):
 (((iter b1 0).bind (Sum.elim (fun b8=>some ((-1))) (fun b9=>some b9)):Option Int).bind fun (j6:Int)=>(bif (j6==(-1)) then some L else (iter b2 ((j6,(w64 (j6+1)),L))).bind fun b20=>(cut b20.2 b20.1 (b20.2.length:Int)).bind fun v33=>(cut ((clr0 b20.2 (Int.toNat b20.1) z)) 0 b20.1).bind fun v35=>some v35))=some (L.filter keep):=by
 have hl1:iter b1 0=some ((zTa (fun i x=>if !keep x then some ((i:Nat):Int) else none) 0 L).elim (.inl ()) .inr):=by
  refine zKa L _ (Sum.inl ()) Sum.inr h10 ?_;intro i r hr;rw[h11 i r hr];cases keep r <;> rfl
 rw[hl1];simp only[Option.bind_some,Kwa];cases hf:zTa (fun i x=>if !keep x then some ((i:Nat):Int) else none) 0 L with
 | none=>
  rw[qBa]at hf;have hall:L.filter keep=L:=by
   rw[List.filter_eq_self];intro x hx;obtain ⟨i,hi⟩:=List.mem_iff_getElem?.1 hx;have:=hf i x hi;cases hq:keep x with
   | true=>rfl
   | false=>rw[hq]at this;simp at this
  rw[hall];rfl
 | some j=>
  obtain ⟨j,rfl,x,hx,hxq,hbefore⟩:∃n:Nat,j=(n:Int)/\∃x,L[n]? =some x/\keep x=false/\∀y∈L.take n,keep y=true:=by
   obtain ⟨m,h1,h2⟩:=kIb keep L 0 j hf;exact ⟨m,by omega,h2⟩
  have hjl:=zGa hx;have hne:(((j:Nat):Int)== -1)=false:=by rw[beq_eq_false_iff_ne];omega
  simp only[Option.getD_some,hne,cond_false,sc j (by omega)];have hdl:∀(r:List α) (i k:Nat) (M:List α),M.length=L.length->M.drop k=r->i < k->k<=M.length->∃L',iter b2 ((i:Int),(k:Int),M)=some (((i+(r.filter keep).length:Nat):Int),L')/\L'.length=L.length/\L'.take (i+(r.filter keep).length)=M.take i++r.filter keep:=by
   intro r;induction r with
   | nil=>
    intro i k M hM hd hik hk;have hkl:k=M.length:=by
     have:=congrArg List.length hd;simp at this;omega
    refine ⟨M,?_,hM,by simp⟩;rw[hkl,hM];simpa using zIa (h20 i M hM)
   | cons y r ih=>
    intro i k M hM hd hik hk;have hlt:k < M.length:=by
     have:=congrArg List.length hd;simp at this;omega
    have hy:M[k]? =some y:=by
     have:=List.getElem?_drop (xs:=M) (i:=k) (j:=0);rw[hd]at this;simpa using this.symm
    have hd' :M.drop (k+1)=r:=by
     have:=congrArg (List.drop 1) hd;simpa[List.drop_drop,Nat.add_comm]using this
    have hs:=h21 i k M y hM hy hik;cases hq:keep y with
    | false=>
     rw[hq,cond_false]at hs;obtain ⟨L',q1,q2,q3⟩:=ih i (k+1) M hM hd' (by omega) (by omega);refine ⟨L',(zVa hs).trans ?_,q2,?_⟩
     .simpa[hq]using q1
     simpa[hq]using q3
    | true=>
     rw[hq,cond_true]at hs;have hdr:(M.set i y).drop (k+1)=r:=by
      rw[List.drop_set_of_lt (by omega)];exact hd'
     obtain ⟨L',q1,q2,q3⟩:=ih (i+1) (k+1) (M.set i y) (by simpa using hM) hdr (by omega) (by simp;omega);have hfl:((y::r).filter keep)=y::r.filter keep:=by simp[hq]
     refine ⟨L',(zVa hs).trans ?_,q2,?_⟩
     .rw[hfl,q1];simp only[List.length_cons];congr 2;omega
     rw[hfl];have e:i+(y::r.filter keep).length=i+1+(r.filter keep).length:=by simp;omega
     rw[e,q3];have:(M.set i y).take (i+1)=M.take i++ [y]:=by
      rw[List.take_add_one];have h5:(M.set i y)[i]? =some y:=List.getElem?_set_self (by omega);rw[h5,List.take_set_of_le (Nat.le_refl _)];rfl
     rw[this];simp
  obtain ⟨L',q1,q2,q3⟩:=hdl (L.drop (j+1)) j (j+1) L rfl rfl (by omega) (by omega);rw[q1];simp only[Option.bind_some];have hfil:L.filter keep=L.take j++(L.drop (j+1)).filter keep:=by
   conv=>lhs;rw[<-List.take_append_drop j L,List.filter_append]
   have h5:(L.take j).filter keep=L.take j:=List.filter_eq_self.2 hbefore;have h6:L.drop j=x::L.drop (j+1):=by
    rw[List.drop_eq_getElem_cons hjl]
    congr 1
    rw[List.getElem?_eq_getElem hjl]at hx;exact Option.some.inj hx
   rw[h5,h6,List.filter_cons,hxq];simp
  have hlen:j+((L.drop (j+1)).filter keep).length<=L'.length:=by
   rw[q2];have:=List.length_filter_le keep (L.drop (j+1));simp at this;omega
  rw[Vma hlen];simp only[Option.bind_some,Int.toNat_natCast];rw[Vna (by unfold clr0;simp;omega),kHb _ _ _ hlen,q3,hfil];rfl
def QBa(q:zma)(e:zba)(out:List zja)(d:Str):List zja:=if !uwP e d && decide (wka q.Entries d+out.countP (fun a=>a.Domain==d) < 2) then out++ [⟨e.Id,d,vwa d 0 e.To⟩] else out
def attE(q:zma)(out:List zja)(e:zba):List zja:=(j4a [] e.To).foldl (QBa q e) out
def dueP(q:zma)(now:Int):List zba:=q.Entries.filter fun e=> !decide (now < e.Due)
def readyP(q:zma)(now:Int):List zja:=(yJa (dueP q now)).foldl (attE q) []
def q7b(q:zma)(now:Int):List zja × zpa:=if (queF q).Code !=0 then ([],queF q) else if !yna now then ([],⟨3, -7⟩) else (readyP q now,⟨0,0⟩)
theorem Jna(q:zma)(e:zba)(out:List zja)(d:Str):(QBa q e out d).length<=out.length+1:=by unfold QBa;split <;> simp
theorem ZKa(q:zma)(e:zba):∀(D:List Str) (out:List zja),(D.foldl (QBa q e) out).length<=out.length+D.length
 | [],out=>by simp
 | d::D,out=>by
  have:=ZKa q e D (QBa q e out d);have:=Jna q e out d;simp only[List.foldl_cons,List.length_cons];omega
theorem Joa:∀{l:List zba},l.Pairwise (fun a b=>a.Id < b.Id)->VXa l=true
 | [],_=>rfl
 | x::l,h=>by
  obtain ⟨h1,h2⟩:=List.pairwise_cons.1 h;unfold VXa;rw[Bool.and_eq_true,List.all_eq_true];refine ⟨fun y hy=>?_,Joa h2⟩;have:=h1 y hy;rw[Bool.or_eq_true,Qba,Qba];omega
def dk(e:zba):Int:=e.Due
theorem q8b:∀{l:List zba},l.Pairwise (fun a b=>a.Id < b.Id)->∀x∈l,∀y∈l,x.Id=y.Id->x=y
 | [],_,x,hx,_,_,_=>by cases hx
 | a::l,h,x,hx,y,hy,he=>by
  obtain ⟨h1,h2⟩:=List.pairwise_cons.1 h;rcases List.mem_cons.1 hx with rfl | hx' <;> rcases List.mem_cons.1 hy with rfl | hy'
  .rfl
  .have:=h1 y hy';omega
  .have:=h1 x hx';omega
  exact q8b h2 x hx' y hy' he
theorem Jpa{K V:Type}[BEq K]:∀(m:List (K × V)) (k:K),(mpos m k).isNone=(mget m k).isNone
 | [],_=>rfl
 | (k',v)::m,k=>by
  unfold mpos mget;split
  .rfl
  rw[Option.isNone_map,Jpa m k]
theorem Qca(d:Str)(p:List zda)(w:zda):vwa d 0 (p++ [w])=vwa d 0 p++(if opnW w && wDom w==d then [(p.length:Int)] else []):=by
 rw[Qsa,Nat.zero_add];simp only[vwa]
theorem doms_eq(e:zba)(h:Z0a e.To):∃M,iter (k4a e) (0,([]:List (Str × List Int)),([]:List Str))=some (M,j4a [] e.To)/\∀d,mget M d=if vwa d 0 e.To=[] then none else some (vwa d 0 e.To):=by
 have h0:=h.1;have key:∀r p M D,e.To=p++r->(∀d,mget M d=if vwa d 0 p=[] then none else some (vwa d 0 p))->(∀d,D.contains d= !(vwa d 0 p).isEmpty)->D.length<=p.length->D++j4a D r=j4a [] e.To->
  ∃M2,iter (k4a e) ((p.length:Int),M,D)=some (M2,j4a [] e.To)/\∀d,mget M2 d=if vwa d 0 e.To=[] then none else some (vwa d 0 e.To):=by
  intro r;induction r with
  | nil=>
   intro p M D hp h1 h2 h3 h4;have hp' :e.To=p:=by simpa using hp
   have hD:D=j4a [] e.To:=by simpa[j4a]using h4
   refine ⟨M,zIa ?_,by rw[hp'];exact h1⟩;unfold k4a;dsimp only;rw[<-hp',zEa,hD];rfl
  | cons w r ih=>
   intro p M D hp h1 h2 h3 h4;have hx:e.To[p.length]? =some w:=by rw[hp];simp
   have hlt:=zGa hx;have hop:(vwa (wDom w) 0 p).length<=p.length:=Jla _ _ _;have hnone:(mpos M (wDom w)).isNone= !D.contains (wDom w):=by
    rw[Jpa,h1,h2];cases hz:vwa (wDom w) 0 p <;> simp
   have hget:(mget M (wDom w)).getD []=vwa (wDom w) 0 p:=by
    rw[h1];split
    .rename_i hz;rw[hz];rfl
    rfl
   have hb:k4a e ((p.length:Int),M,D)=some (.cont (((p.length+1:Nat):Int),if opnW w then mput M (wDom w) (vwa (wDom w) 0 p++ [(p.length:Int)]) else M,if opnW w && !D.contains (wDom w) then D++ [wDom w] else D)):=by
    unfold k4a;dsimp only;rw[zUa hx,zta hx];simp only[cond_true,Option.bind_some,sc _ (show p.length < 9223372036854775807 by omega)];cases ho:opnW w with
    | false=>
     have:(w.Result !=0)=true:=by unfold opnW at ho;rw[bne,ho];rfl
     rw[this];rfl
    | true=>
     have:(w.Result !=0)=false:=by unfold opnW at ho;rw[bne,ho];rfl
     rw[this];simp only[cond_false,Option.bind_some,yoa _ (h.2 w (List.mem_of_getElem? hx))];rw[show mpos M (Yta w.Recipient.Address)=mpos M (wDom w) from rfl,show mget M (Yta w.Recipient.Address)=mget M (wDom w) from rfl,hnone,hget];rw[qPa (l:=vwa (wDom w) 0 p) (by simp;omega)];have hnn:Wka (vwa (wDom w) 0 p++ [(p.length:Int)])=some true:=by unfold Wka;simp
     cases hc:D.contains (wDom w) with
     | true=>simp only[Bool.not_true,cond_false,Option.bind_some,hnn];rfl
     | false=>
      rw[qPa (by simp;omega)];simp only[Bool.not_false,cond_true,Option.bind_some,hnn];rfl
   rw[zVa hb];have hsn:=Qca;have:=ih (p++ [w]) (if opnW w then mput M (wDom w) (vwa (wDom w) 0 p++ [(p.length:Int)]) else M) (if opnW w && !D.contains (wDom w) then D++ [wDom w] else D) (by simp[hp]) (fun d=>by
    rw[Qca];cases ho:opnW w with
    | false=>simp[h1]
    | true=>
     rw[if_pos rfl,Zoa];by_cases hd:wDom w=d
     .subst hd;simp
     have:(wDom w==d)=false:=beq_eq_false_iff_ne.2 hd;simp[this,h1]) (fun d=>by
    rw[Qca];cases ho:opnW w with
    | false=>simp only[Bool.false_and,Bool.false_eq_true,if_false,List.append_nil];exact h2 d
    | true=>
     simp only[Bool.true_and];by_cases hd:wDom w=d
     .subst hd;simp only[beq_self_eq_true,if_true];cases hc:D.contains (wDom w) with
      | true=>simp only[Bool.not_true,Bool.false_eq_true,if_false];rw[hc];simp
      | false=>simp only[Bool.not_false,if_true];simp
     have hd' :(wDom w==d)=false:=beq_eq_false_iff_ne.2 hd;rw[hd'];simp only[Bool.false_eq_true,if_false,List.append_nil];rw[<-h2 d];cases hc:D.contains (wDom w) with
     | true=>simp only[Bool.not_true,Bool.false_eq_true,if_false]
     | false=>simp only[Bool.not_false,if_true];simp[Ne.symm hd]) (by
    split
    .simp;omega
    .simp;omega) (by
    rw[<-h4]
    conv=>rhs;unfold j4a
    split
    .simp
    rfl)
   simpa using this
 exact key e.To [] [] [] rfl (fun d=>by simp[vwa,mget]) (fun d=>by simp[vwa]) (Nat.le_refl _) rfl
theorem step_eq(q:zma)(e:zba)(u:List ((Int × Str) × Bool))(m0:List (Str × Int))(M:List (Str × List Int))(hu:∀d,(mget u (e.Id,d)).getD false=uwP e d)(hM:∀d,mget M d=if vwa d 0 e.To=[] then none else some (vwa d 0 e.To))(hn:q.Entries.length<=20):
 ∀(r p:List Str) (D:List Str) (out:List zja) (m:List (Str × Int)),D=p++r->(∀d,(mget m d).getD 0=(wka q.Entries d+out.countP (fun a=>a.Domain==d):Nat))->out.length+r.length<=33554432->D.length<=1048576->
  ∃m2,iter (k5a (u,m0) e (M,D)) ((p.length:Int),out,m)=some (r.foldl (QBa q e) out,m2)/\∀d,(mget m2 d).getD 0=(wka q.Entries d+(r.foldl (QBa q e) out).countP (fun a=>a.Domain==d):Nat):=by
 intro r;induction r with
 | nil=>
  intro p D out m hp h1 h2 h3;have hp' :D=p:=by simpa using hp
  refine ⟨m,zIa ?_,h1⟩;unfold k5a;dsimp only;rw[<-hp',zEa];rfl
 | cons d r ih=>
  intro p D out m hp h1 h2 h3;have hx:D[p.length]? =some d:=by rw[hp];simp
  have hlt:=zGa hx;simp only[List.length_cons]at h2;have hbn:=Jma q.Entries d;have hcn:out.countP (fun a=>a.Domain==d)<=out.length:=List.countP_le_length;have hMd:(mget M d).getD []=vwa d 0 e.To:=by
   rw[hM];split
   .rename_i hz;rw[hz];rfl
   rfl
  have hdec:decide ((((wka q.Entries d+out.countP (fun a=>a.Domain==d):Nat):Int)) < 2)=decide (wka q.Entries d+out.countP (fun a=>a.Domain==d) < 2):=by congr 1;apply propext;omega
  have hb:k5a (u,m0) e (M,D) ((p.length:Int),out,m)=some (.cont (((p.length+1:Nat):Int),QBa q e out d,if !uwP e d && decide (wka q.Entries d+out.countP (fun a=>a.Domain==d) < 2) then mput m d (((wka q.Entries d+out.countP (fun a=>a.Domain==d):Nat):Int)+1) else m)):=by
   unfold k5a QBa;dsimp only;rw[zUa hx,zta hx];simp only[cond_true,Option.bind_some,hu,h1,hMd,hdec,sc _ (show p.length < 9223372036854775807 by omega)];rw[qPa (by simp;omega),vja (by omega) (by omega)];cases uwP e d <;> cases decide (wka q.Entries d+out.countP (fun a=>a.Domain==d) < 2) <;> rfl
  rw[zVa hb];have hsl:=Jna q e out d;have:=ih (p++ [d]) D (QBa q e out d) (if !uwP e d && decide (wka q.Entries d+out.countP (fun a=>a.Domain==d) < 2) then mput m d (((wka q.Entries d+out.countP (fun a=>a.Domain==d):Nat):Int)+1) else m) (by simp[hp]) (fun d' =>by
   unfold QBa;cases hc: !uwP e d && decide (wka q.Entries d+out.countP (fun a=>a.Domain==d) < 2) with
   | false=>simp only[Bool.false_eq_true,if_false];exact h1 d'
   | true=>
    rw[if_pos rfl,if_pos rfl,Zoa,List.countP_append,List.countP_cons,List.countP_nil];by_cases hd:d=d'
    .subst hd;simp;omega
    have:(d==d')=false:=beq_eq_false_iff_ne.2 hd;rw[this];simp only[Bool.false_eq_true,if_false,h1];simp) (by omega) h3
  simpa using this
theorem kJb(q:zma)(u:List ((Int × Str) × Bool))(m0:List (Str × Int))(S:List zba)(hS:∀e∈S,Z0a e.To/\∀d,(mget u (e.Id,d)).getD false=uwP e d)(hn:q.Entries.length<=20)(hl:S.length<=20):
 ∀(r p:List zba) (out:List zja) (m:List (Str × Int)),S=p++r->(∀d,(mget m d).getD 0=(wka q.Entries d+out.countP (fun a=>a.Domain==d):Nat))->out.length<=p.length * 1048576->
  iter (k6a S (u,m0)) ((p.length:Int),out,m)=some (r.foldl (attE q) out):=by
 intro r;induction r with
 | nil=>
  intro p out m hp h1 h2;have hp' :S=p:=by simpa using hp
  refine zIa ?_;unfold k6a;dsimp only;rw[<-hp',zEa];rfl
 | cons e r ih=>
  intro p out m hp h1 h2;have hx:S[p.length]? =some e:=by rw[hp];simp
  have hlt:=zGa hx;obtain ⟨s1,s2⟩:=hS e (List.mem_of_getElem? hx);obtain ⟨M,hM,hMd⟩:=doms_eq e s1;have hdl:=q5b e.To [];have hto:=s1.1;have hb2:p.length * 1048576<=20 * 1048576:=Nat.mul_le_mul_right _ (by omega);obtain ⟨m2,hm2,hm3⟩:=step_eq q e u m0 M s2 hMd hn (j4a [] e.To) [] (j4a [] e.To) out m rfl h1 (by omega) (by omega);have hb:k6a S (u,m0) ((p.length:Int),out,m)=some (.cont (((p.length+1:Nat):Int),attE q out e,m2)):=by
   unfold k6a;dsimp only;rw[zUa hx,zta hx];simp only[cond_true,Option.bind_some,hM];rw[show iter (k5a (u,m0) e (M,j4a [] e.To)) (0,out,m)=some ((j4a [] e.To).foldl (QBa q e) out,m2) from hm2];simp only[Option.bind_some,sc _ (show p.length < 9223372036854775807 by omega)];rfl
  rw[zVa hb];have hfl:=ZKa q e (j4a [] e.To) out;have:=ih (p++ [e]) (attE q out e) m2 (by simp[hp]) hm3 (by unfold attE;simp only[List.length_append,List.length_singleton];omega);simpa using this
def VCa(q:zma):Prop:=∀e∈q.Entries,Z0a e.To
theorem V2a(q:zma)(now:Int)(hq:yBa q)(hw:VCa q):yia q now=some (q7b q now):=by
 unfold yia q7b;rw[vfa q hq];simp only[Option.bind_some,kga,zOa,kwa,v7a];by_cases hc:(queF q).Code=0
 .obtain ⟨ok,hF⟩:=ZZa hc;have h1:((queF q).Code !=0)=false:=by simp[hc]
  have hn:=ok.n;rw[h1];simp only[cond_false,Bool.false_eq_true,if_false];show (bif !yna now then _ else _)=_;cases yna now with
  | false=>rfl
  | true=>
   simp only[Bool.not_true,cond_false,Bool.false_eq_true,if_false];rw[qPa (by simp;omega)];simp only[List.nil_append,Option.bind_some];rw[YOa _ _ _ (fun he=>by rw[List.isEmpty_iff.1 he])];simp only[Option.bind_some];have hdel:=del_eq (fun e:zba=> !decide (now < e.Due)) q.Entries (zba.mk 0 ((z0a.mk ((zwa.mk (([]:Str)) ([]) (([]:Str)))) ((zsa.mk ([]) ([]))))) 0 0 0 ([])) (by omega) (b1:=vua now q.Entries) (b2:=vva now) (by unfold vua;rw[zEa];rfl) (fun i x hx=>by
    have hi:=zGa hx;unfold vua;rw[zUa hx,zta hx];simp only[cond_true,Option.bind_some,sc i (by omega)];cases decide (now < x.Due) <;> rfl) (fun i M hM=>by
    unfold vva;dsimp only;rw[<-hM,zEa];rfl) (fun i k M x hM hx hik=>by
    have hi:=zGa hx;have hii:M[i]? =some (M[i]'(by omega)):=List.getElem?_eq_getElem (by omega);unfold vva;dsimp only;rw[zUa hx,zta hx,zta hii];simp only[cond_true,Option.bind_some,sc i (by omega),sc k (by omega)];cases decide (now < x.Due) <;> simp)
   rw[hdel];simp only[Option.bind_some];have hids:(dueP q now).Pairwise (fun a b=>a.Id < b.Id):=ok.ids.filter _;have hdl:(dueP q now).length<=q.Entries.length:=List.length_filter_le _ _;have hsort:zza (dueP q now)=some (yJa (dueP q now)):=by
    unfold zza;rw[Joa hids,decide_eq_true (show (dueP q now).length<=1048576 by omega)];rfl
   show ((zza (dueP q now)).bind _)=_;rw[hsort];simp only[Option.bind_some];obtain ⟨u,m,hbz,hu,hm⟩:=q6b q hn hw ok.ids;rw[hbz];simp only[Option.bind_some];have hSl:(yJa (dueP q now)).length=(dueP q now).length:=(y7a _).length_eq;have hloop:=kJb q u m (yJa (dueP q now)) (fun e he=>by
    have he2:e∈q.Entries:=(List.mem_filter.1 ((y7a _).mem_iff.1 he)).1;refine ⟨hw e he2,fun d=>?_⟩;rw[hu,Bool.eq_iff_iff,List.any_eq_true];constructor
    .rintro ⟨x,hx,hxe⟩;simp at hxe;have:x=e:=q8b ok.ids x hx e he2 hxe.1.symm;rw[<-this];exact hxe.2
    intro h;exact ⟨e,he2,by simp[h]⟩) hn (by omega) (yJa (dueP q now)) [] [] m rfl (fun d=>by rw[hm];simp) (by simp)
   rw[show iter (k6a (yJa (dueP q now)) (u,m)) (0,([]:List zja),m)=some ((yJa (dueP q now)).foldl (attE q) []) from hloop];rfl
 have h1:((queF q).Code !=0)=true:=by simpa using hc
 rw[h1];rfl
def posI(l:List zba)(id:Int):Int:=(zTa (fun i x=>if x.Id==id then some ((i:Nat):Int) else none) 0 l).getD (-1)
theorem q9b(l:List zba)(id:Int):(posI l id= -1/\∀x∈l,x.Id≠id)∨∃(n:Nat) (x:zba),posI l id=(n:Int)/\l[n]? =some x/\x.Id=id:=by
 unfold posI;cases hf:zTa (fun i x=>if x.Id==id then some ((i:Nat):Int) else none) 0 l with
 | none=>
  left;refine ⟨rfl,fun x hx he=>?_⟩;rw[qBa]at hf;obtain ⟨i,hi⟩:=List.mem_iff_getElem?.1 hx;have:=hf i x hi;simp[he]at this
 | some z=>
  right;obtain ⟨i,x,h1,h2⟩:=jla hf;by_cases he:x.Id=id
  .simp[he]at h2;exact ⟨i,x,by simp[<-h2],h1,he⟩
  simp[he]at h2
def toR(e:zba)(dom:Str)(on:Bool):Nat->Int->List Int->Option zpa
 | _,_,[]=>none
 | i,last,k::r=>if decide (k<=last) || decide ((e.To.length:Int)<=k) then some ⟨3,i⟩ else match e.To[k.toNat]? with
  | none=>none
  | some w=>if wDom w !=dom then some ⟨5,i⟩ else if w.Result !=0 || w.Busy !=on then some ⟨8,i⟩ else toR e dom on (i+1) k r
def attP(q:zma)(a:zja)(on:Bool):Int × zpa:=
 if posI q.Entries a.Entry= -1 then (0,⟨6, -3⟩) else match q.Entries[(posI q.Entries a.Entry).toNat]? with
  | none=>(0,⟨6, -3⟩)
  | some e=>if a.To.length=0∨e.To.length < a.To.length then (0,⟨2, -4⟩) else match toR e a.Domain on 0 (-1) a.To with
   | some f=>(0,f)
   | none=>(posI q.Entries a.Entry,⟨0,0⟩)
theorem att_loop(e:zba)(a:zja)(on:Bool)(he:Z0a e.To)(hl:a.To.length<=1048576):∀(r p:List Int) (last:Int),a.To=p++r->(p=[]/\last= -1∨0<=last/\∃p',p=p' ++ [last])->
 iter (kna a on e) (p.length:Int)=some (match toR e a.Domain on p.length last r with | some f=>.inr (0,f) | none=>.inl ()):=by
 intro r;have h0:=he.1;induction r with
 | nil=>
  intro p last hp hc;have hp' :a.To=p:=by simpa using hp
  refine zIa ?_;unfold kna;rw[<-hp',zEa];rfl
 | cons k r ih=>
  intro p last hp hc;have hx:a.To[p.length]? =some k:=by rw[hp];simp
  have hlt:=zGa hx;have hcond:((bif decide (k < 0) then some true else (bif decide ((e.To.length:Int)<=k) then some true else (bif decide (0 < (p.length:Int)) then (idx a.To ((w64 ((p.length:Int) - 1)))).bind fun v38=>some (decide (k<=v38)) else some false))):Option Bool)=some (decide (k<=last) || decide ((e.To.length:Int)<=k)):=by
   rcases hc with ⟨rfl,rfl⟩ | ⟨hl0,p',rfl⟩
   .have:decide (k < 0)=decide (k<= -1):=by congr 1;apply propext;omega
    rw[this];simp only[List.length_nil];cases decide (k<= -1) <;> cases decide ((e.To.length:Int)<=k) <;> rfl
   have h1:decide (0 < (((p' ++ [last]).length:Nat):Int))=true:=decide_eq_true (by rw[List.length_append,List.length_singleton];omega);have h2:idx a.To ((w64 (((p' ++ [last]).length:Int) - 1)))=some last:=by
    rw[show (((p' ++ [last]).length:Int) - 1)=(p'.length:Int) by simp,Yfa _ (by simp at hlt;omega)];rw[Vla,hp];simp
   rw[h1,h2];simp only[cond_true,Option.bind_some];by_cases hk:k < 0
   .rw[decide_eq_true hk,decide_eq_true (show k<=last by omega)];rfl
   rw[decide_eq_false hk];cases decide ((e.To.length:Int)<=k) <;> cases decide (k<=last) <;> rfl
  unfold toR;cases hq:decide (k<=last) || decide ((e.To.length:Int)<=k) with
  | true=>
   rw[if_pos rfl];refine zIa ?_;unfold kna;rw[zUa hx,zta hx];simp only[cond_true,Option.bind_some];rw[hcond,hq];rfl
  | false=>
   rw[if_neg (by decide)];simp at hq;have hlast: -1<=last:=by rcases hc with ⟨_,rfl⟩ | ⟨h,_⟩ <;> omega
   obtain ⟨kn,rfl⟩:∃kn:Nat,k=(kn:Int):=⟨k.toNat,by omega⟩;have hkl:kn < e.To.length:=by omega
   have hw:e.To[kn]? =some e.To[kn]:=List.getElem?_eq_getElem hkl;generalize e.To[kn]=w at hw;have hmem:=List.mem_of_getElem? hw;have hqf:(decide ((kn:Int)<=last) || decide ((e.To.length:Int)<=(kn:Int)))=false:=by simp;omega
   have hb:kna a on e (p.length:Int)=some (if wDom w !=a.Domain then .out (.inr (0,⟨5,p.length⟩)) else if w.Result !=0 || w.Busy !=on then .out (.inr (0,⟨8,p.length⟩)) else .cont ((p.length+1:Nat):Int)):=by
    unfold kna;rw[zUa hx,zta hx];simp only[cond_true,Option.bind_some];rw[hcond,hqf];simp only[Option.bind_some,cond_false,zta hw,yoa _ (he.2 w hmem),zOa,sc _ (show p.length < 9223372036854775807 by omega)];show _=some (if wDom w !=a.Domain then _ else _);unfold wDom;cases (Yta w.Recipient.Address !=a.Domain) <;> cases (w.Result !=0) <;> cases (w.Busy !=on) <;> rfl
   simp only[Int.toNat_natCast,hw];cases h1:wDom w !=a.Domain with
   | true=>rw[h1]at hb;rw[zIa hb];rfl
   | false=>
    rw[h1]at hb;cases h2:w.Result !=0 || w.Busy !=on with
    | true=>rw[h2]at hb;rw[zIa hb];rfl
    | false=>
     rw[h2]at hb;simp only[Bool.false_eq_true,if_false]at hb ⊢;rw[zVa hb];have:=ih (p++ [(kn:Int)]) (kn:Int) (by simp[hp]) (.inr ⟨by omega,p,rfl⟩);simpa using this
theorem jza(q:zma)(a:zja)(on:Bool)(hq:yBa q)(hw:VCa q)(hl:a.To.length<=1048576):vda q a on=some (if (queF q).Code !=0 then (0,queF q) else attP q a on):=by
 unfold vda attP;rw[vfa q hq];simp only[Option.bind_some,kga,zOa,kwa];by_cases hc:(queF q).Code=0
 .obtain ⟨ok,hF⟩:=ZZa hc;have hn:=ok.n;have h1:((queF q).Code !=0)=false:=by simp[hc]
  rw[h1];simp only[cond_false,Bool.false_eq_true,if_false];have hpos:((iter (qIa q a) 0).bind (Sum.elim (fun b8=>some ((-1))) (fun b9=>some b9)):Option Int)=some (posI q.Entries a.Entry):=by
   rw[zKa q.Entries (fun i x=>if x.Id==a.Entry then some ((i:Nat):Int) else none) (.inl ()) .inr]
   .simp only[Option.bind_some,Kwa];rfl
   .unfold qIa;rw[zEa];rfl
   intro i x hx;have hi:=zGa hx;unfold qIa;rw[zUa hx,zta hx];simp only[cond_true,Option.bind_some,sc i (by omega)];cases x.Id==a.Entry <;> rfl
  rw[hpos];simp only[Option.bind_some];rcases q9b q.Entries a.Entry with ⟨h2,_⟩ | ⟨n,e,h2,h3,h4⟩
  .rw[h2];rfl
  rw[h2];have hlt:=zGa h3;rw[decide_eq_false (show ¬((n:Int) < 0) by omega),if_neg (by omega),zta h3];simp only[cond_false,Option.bind_some,Int.toNat_natCast,h3];have e1:((bif ((a.To.length:Int)==0) then some true else some (decide ((e.To.length:Int) < (a.To.length:Int)))):Option Bool)=some (decide (a.To.length=0∨e.To.length < a.To.length)):=by
   by_cases h0:a.To.length=0
   .rw[h0];simp
   rw[show ((a.To.length:Int)==0)=false by rw[beq_eq_false_iff_ne];omega];simp only[cond_false,Option.some.injEq]
   congr 1;apply propext;omega
  rw[e1];simp only[Option.bind_some];by_cases h5:a.To.length=0∨e.To.length < a.To.length
  .rw[decide_eq_true h5,if_pos h5];rfl
  rw[decide_eq_false h5,if_neg h5];simp only[cond_false];have:=att_loop e a on (hw e (List.mem_of_getElem? h3)) hl a.To [] (-1) rfl (.inl ⟨rfl,rfl⟩);rw[show iter (kna a on e) 0=_ from this];simp only[List.length_nil];cases toR e a.Domain on 0 (-1) a.To <;> rfl
 have h1:((queF q).Code !=0)=true:=by simpa using hc
 rw[h1];rfl
def wTo(e:zba)(T:List zda):zba:=⟨e.Id,e.Mail,e.Since,e.Tries,e.Due,T⟩
def onK(T:List zda)(k:Int):List zda:=match T[k.toNat]? with
 | some w=>T.set k.toNat ⟨w.Recipient,w.Result,true⟩
 | none=>T
theorem onK_len(T:List zda)(k:Int):(onK T k).length=T.length:=by unfold onK;split <;> simp
theorem zQb(e:zba)(dom:Str)(on:Bool):∀(ks:List Int) (i:Nat) (last:Int) (f:zpa),toR e dom on i last ks=some f->f.Code≠0
 | [],_,_,_,h=>by cases h
 | k::ks,i,last,f,h=>by
  unfold toR at h;split at h
  .cases h;simp
  split at h
  .cases h
  split at h
  .cases h;simp
  split at h
  .cases h;simp
  exact zQb e dom on ks _ _ _ h
theorem Ywa(e:zba)(dom:Str)(on:Bool):∀(ks:List Int) (i:Nat) (last:Int), -1<=last->toR e dom on i last ks=none->∀k∈ks,last < k/\k < (e.To.length:Int)/\∃w,e.To[k.toNat]? =some w/\wDom w=dom/\w.Result=0/\w.Busy=on
 | [],_,_,_,_,k,hk=>by cases hk
 | k::ks,i,last,hl,h,x,hx=>by
  unfold toR at h;split at h
  .cases h
  rename_i h1;simp at h1;have hkl:k.toNat < e.To.length:=by omega
  rw[List.getElem?_eq_getElem hkl]at h;generalize hw:e.To[k.toNat]=w at h;dsimp only at h;split at h
  .cases h
  rename_i h2;split at h
  .cases h
  rename_i h3;simp at h2 h3;rcases List.mem_cons.1 hx with rfl | hx
  .exact ⟨by omega,by omega,w,by rw[List.getElem?_eq_getElem hkl,hw],h2,h3.1,h3.2⟩
  obtain ⟨a,b,c⟩:=Ywa e dom on ks _ k (by omega) h x hx;exact ⟨by omega,b,c⟩
theorem vab{q:zma}{a:zja}{on:Bool}(h:(attP q a on).2.Code=0):∃(n:Nat) (e:zba),attP q a on=((n:Int),⟨0,0⟩)/\q.Entries[n]? =some e/\e.Id=a.Entry/\toR e a.Domain on 0 (-1) a.To=none/\1<=a.To.length/\a.To.length<=e.To.length:=by
 unfold attP at h ⊢;rcases q9b q.Entries a.Entry with ⟨h2,_⟩ | ⟨n,e,h2,h3,h4⟩
 .rw[h2]at h;simp at h
 rw[h2]at h ⊢;rw[if_neg (by omega)]at h ⊢;simp only[Int.toNat_natCast,h3]at h ⊢;by_cases h5:a.To.length=0∨e.To.length < a.To.length
 .rw[if_pos h5]at h;simp at h
 rw[if_neg h5]at h ⊢;cases ht:toR e a.Domain on 0 (-1) a.To with
 | some f=>rw[ht]at h;exact absurd h (zQb _ _ _ _ _ _ _ ht)
 | none=>exact ⟨n,e,rfl,h3,h4,ht,by omega,by omega⟩
def beginE(L:List zba)(n:Nat)(ks:List Int):List zba:=match L[n]? with
 | some e=>L.set n (wTo e (ks.foldl onK e.To))
 | none=>L
def takeP(q:zma)(a:zja):zma × zpa:=
 if (queF q).Code !=0 then (⟨[],0⟩,queF q) else if (attP q a false).2.Code !=0 then (⟨[],0⟩,(attP q a false).2) else
 if decide (2<=wka q.Entries a.Domain) || uwP ((q.Entries[(attP q a false).1.toNat]?).getD ⟨0,⟨⟨[],[],[]⟩,⟨[],[]⟩⟩,0,0,0,[]⟩) a.Domain then (⟨[],0⟩,⟨8, -5⟩) else (⟨beginE q.Entries (attP q a false).1.toNat a.To,q.Next⟩,⟨0,0⟩)
theorem j5a{L:List zba}{n:Nat}(hn:n < L.length)(x:zba):idx (L.set n x) (n:Int)=some x:=zta (by simp[hn])
theorem kKb{a:zja}{f:zpa}{L:List zba}{n:Nat}{e:zba}(he:L[n]? =some e)(hl:a.To.length<=1048576)(hk:∀k∈a.To,0<=k/\k < (e.To.length:Int))
 {body:Int × List zba->Option (Step (Int × List zba) (List zba))} (hb:body=v3a a ((n:Int),f) (L,L.length)∨body=ZWa a ((n:Int),f) (L,L.length)):
 iter body (0,L)=some (L.set n (wTo e (a.To.foldl onK e.To))):=by
 have hn:=zGa he;have key:∀(r p:List Int) (T:List zda),a.To=p++r->T.length=e.To.length->iter body ((p.length:Int),L.set n (wTo e T))=some (L.set n (wTo e (r.foldl onK T))):=by
  intro r;induction r with
  | nil=>
   intro p T hp hT;have hp' :a.To=p:=by simpa using hp
   refine zIa ?_;rcases hb with rfl | rfl
   .unfold v3a;dsimp only;rw[<-hp',zEa];rfl
   unfold ZWa;dsimp only;rw[<-hp',zEa];rfl
  | cons k r ih=>
   intro p T hp hT;have hx:a.To[p.length]? =some k:=by rw[hp];simp
   have hlt:=zGa hx;obtain ⟨k0,k1⟩:=hk k (List.mem_of_getElem? hx);obtain ⟨kn,rfl⟩:∃kn:Nat,k=(kn:Int):=⟨k.toNat,by omega⟩;have hkT:T[kn]? =some (T[kn]'(by omega)):=List.getElem?_eq_getElem (by omega);generalize T[kn]'(by omega)=w at hkT;have hon:onK T (kn:Int)=T.set kn ⟨w.Recipient,w.Result,true⟩:=by unfold onK;simp only[Int.toNat_natCast,hkT]
   have hnown:nown L.length (n:Int)=some true:=by unfold nown;rw[if_pos (by simpa using hn)]
   have hw:idx (wTo e T).To (kn:Int)=some w:=zta hkT;have hc:body ((p.length:Int),L.set n (wTo e T))=some (.cont (((p.length+1:Nat):Int),L.set n (wTo e (onK T (kn:Int))))):=by
    rcases hb with rfl | rfl
    .unfold v3a;dsimp only;rw[zUa hx,zta hx];simp only[cond_true,Option.bind_some,j5a hn,hnown,hw,sc _ (show p.length < 9223372036854775807 by omega),Int.toNat_natCast,List.set_set,hon];rfl
    unfold ZWa;dsimp only;rw[zUa hx,zta hx];simp only[cond_true,Option.bind_some,j5a hn,hnown,hw,sc _ (show p.length < 9223372036854775807 by omega),Int.toNat_natCast,List.set_set,hon];rfl
   rw[zVa hc];have:=ih (p++ [(kn:Int)]) (onK T (kn:Int)) (by simp[hp]) (by rw[onK_len,hT]);simpa using this
 have h0:L.set n (wTo e e.To)=L:=Yva he;have:=key a.To [] e.To rfl rfl;rw[h0]at this;exact this
theorem WFa{q:zma}(hq:yBa q)(ok:QueOk q):zkb q.Entries:=⟨hq.1,hq.2⟩
theorem Yxa(q:zma)(a:zja)(hq:yBa q)(hw:VCa q)(hl:a.To.length<=1048576):y0a q a=some (takeP q a):=by
 unfold y0a takeP;rw[jza q a false hq hw hl];simp only[Option.bind_some,kga,zOa,kwa];by_cases hc:(queF q).Code=0
 .obtain ⟨ok,hF⟩:=ZZa hc;have h1:((queF q).Code !=0)=false:=by simp[hc]
  have hn:=ok.n;rw[h1];simp only[Bool.false_eq_true,if_false];by_cases hca:(attP q a false).2.Code=0
  .obtain ⟨n,e,ha,he,hid,ht,t1,t2⟩:=vab hca;have hne:=zGa he;rw[ha];simp only[bne_self_eq_false,cond_false,Bool.false_eq_true,if_false,Int.toNat_natCast,he,Option.getD_some];obtain ⟨u,m,hbz,hu,hm⟩:=q6b q hn hw ok.ids;rw[show iter (jia q) (0,([]:List ((Int × Str) × Bool)),([]:List (Str × Int)))=some (u,m) from hbz];simp only[Option.bind_some,hm,hu];have e1:(q.Entries.any fun x=>a.Entry==x.Id && uwP x a.Domain)=uwP e a.Domain:=by
    rw[Bool.eq_iff_iff,List.any_eq_true];constructor
    .rintro ⟨x,hx,hxe⟩;simp at hxe;have:x=e:=q8b ok.ids x hx e (List.mem_of_getElem? he) (by rw[hid];exact hxe.1.symm);rw[<-this];exact hxe.2
    intro h;exact ⟨e,List.mem_of_getElem? he,by simp[h,hid]⟩
   rw[e1];have e2:decide ((2:Int)<=(wka q.Entries a.Domain:Int))=decide (2<=wka q.Entries a.Domain):=by congr 1;apply propext;omega
   rw[e2];have e3:((bif decide (2<=wka q.Entries a.Domain) then some true else some (uwP e a.Domain)):Option Bool)=some (decide (2<=wka q.Entries a.Domain) || uwP e a.Domain):=by cases decide (2<=wka q.Entries a.Domain) <;> rfl
   rw[e3];simp only[Option.bind_some];cases decide (2<=wka q.Entries a.Domain) || uwP e a.Domain with
   | true=>rfl
   | false=>
    simp only[cond_false,Bool.false_eq_true,if_false];rw[q3a _ (by omega)];simp only[Option.bind_some];rw[show iter (jja q.Entries) (0,0,q.Entries)=some (q.Entries,q.Entries.length) from Vxa q.Entries (WFa hq ok)];simp only[Option.bind_some];rw[kKb he hl (fun k hk=>by have:=Ywa _ _ _ _ _ _ (by omega) ht k hk;omega) (.inl rfl)];unfold beginE;rw[he];rfl
  have h2:((attP q a false).2.Code !=0)=true:=by simpa using hca
  rw[h2];rfl
 have h1:((queF q).Code !=0)=true:=by simpa using hc
 rw[h1];simp only[if_true,h1,cond_true]
def zob(t:Int):Int:=if 8 < t then 14400 else 60 * 2 ^ (t - 1).toNat
theorem zAa(t w i w' i' :Int)(h1:decide (i < t)=true)(h2:decide (w < 14400)=true)(h3:min (w64 (2 * w)) 14400=w')(h4:w64 (i+1)=i'):iter (kYa t) (w,i)=iter (kYa t) (w',i'):=by
 refine zVa ?_;unfold kYa;dsimp only;rw[h1,h2,h3,h4];rfl
theorem v8a(t w i:Int)(h:(decide (i < t) && decide (w < 14400))=false):iter (kYa t) (w,i)=some w:=by
 refine zIa ?_;unfold kYa;dsimp only;cases h1:decide (i < t) with
 | false=>rfl
 | true=>rw[h1]at h;simp only[Bool.true_and]at h;rw[h];rfl
theorem wait_eq(t:Int)(h:1<=t):iter (kYa t) (60,1)=some (zob t):=by
 by_cases h8:8 < t
 .unfold zob;rw[if_pos h8];rw[zAa t 60 1 120 2 (decide_eq_true (by omega)) rfl rfl rfl,zAa t 120 2 240 3 (decide_eq_true (by omega)) rfl rfl rfl,zAa t 240 3 480 4 (decide_eq_true (by omega)) rfl rfl rfl,zAa t 480 4 960 5 (decide_eq_true (by omega)) rfl rfl rfl,zAa t 960 5 1920 6 (decide_eq_true (by omega)) rfl rfl rfl,zAa t 1920 6 3840 7 (decide_eq_true (by omega)) rfl rfl rfl,zAa t 3840 7 7680 8 (decide_eq_true (by omega)) rfl rfl rfl,zAa t 7680 8 14400 9 (decide_eq_true (by omega)) rfl rfl rfl];exact v8a t 14400 9 (by simp)
 have:t=1∨t=2∨t=3∨t=4∨t=5∨t=6∨t=7∨t=8:=by omega
 rcases this with rfl | rfl | rfl | rfl | rfl | rfl | rfl | rfl
 .exact v8a 1 60 1 rfl
 .rw[zAa 2 60 1 120 2 rfl rfl rfl rfl];exact v8a 2 120 2 rfl
 .rw[zAa 3 60 1 120 2 rfl rfl rfl rfl,zAa 3 120 2 240 3 rfl rfl rfl rfl];exact v8a 3 240 3 rfl
 .rw[zAa 4 60 1 120 2 rfl rfl rfl rfl,zAa 4 120 2 240 3 rfl rfl rfl rfl,zAa 4 240 3 480 4 rfl rfl rfl rfl];exact v8a 4 480 4 rfl
 .rw[zAa 5 60 1 120 2 rfl rfl rfl rfl,zAa 5 120 2 240 3 rfl rfl rfl rfl,zAa 5 240 3 480 4 rfl rfl rfl rfl,zAa 5 480 4 960 5 rfl rfl rfl rfl];exact v8a 5 960 5 rfl
 .rw[zAa 6 60 1 120 2 rfl rfl rfl rfl,zAa 6 120 2 240 3 rfl rfl rfl rfl,zAa 6 240 3 480 4 rfl rfl rfl rfl,zAa 6 480 4 960 5 rfl rfl rfl rfl,zAa 6 960 5 1920 6 rfl rfl rfl rfl];exact v8a 6 1920 6 rfl
 .rw[zAa 7 60 1 120 2 rfl rfl rfl rfl,zAa 7 120 2 240 3 rfl rfl rfl rfl,zAa 7 240 3 480 4 rfl rfl rfl rfl,zAa 7 480 4 960 5 rfl rfl rfl rfl,zAa 7 960 5 1920 6 rfl rfl rfl rfl,zAa 7 1920 6 3840 7 rfl rfl rfl rfl];exact v8a 7 3840 7 rfl
 rw[zAa 8 60 1 120 2 rfl rfl rfl rfl,zAa 8 120 2 240 3 rfl rfl rfl rfl,zAa 8 240 3 480 4 rfl rfl rfl rfl,zAa 8 480 4 960 5 rfl rfl rfl rfl,zAa 8 960 5 1920 6 rfl rfl rfl rfl,zAa 8 1920 6 3840 7 rfl rfl rfl rfl,zAa 8 3840 7 7680 8 rfl rfl rfl rfl];exact v8a 8 7680 8 rfl
theorem Jqa(t:Int)(h:1<=t):0<=zob t/\zob t<=14400:=by
 unfold zob;by_cases h8:8 < t
 .rw[if_pos h8];omega
 have:t=1∨t=2∨t=3∨t=4∨t=5∨t=6∨t=7∨t=8:=by omega
 rcases this with rfl | rfl | rfl | rfl | rfl | rfl | rfl | rfl <;> decide
def jAa(since tries now:Int):Int × Bool:=if since+345600<=now then (0,false) else (min (min (now+zob tries) (since+345600)) 68719476736,true)
theorem Qta{t:Int}(h:yna t=true): -68719476736<=t/\t<=68719476736:=by
 unfold yna at h;simpa using h
theorem Jra(a b:Int)(ha:yna a=true)(hb:yna b=true):yfa [a,b]=some true:=by
 unfold yfa;have t0:∀v,yna v=true->qia v=some true:=fun v hv=>by rw[v7a];exact congrArg some hv
 have h1:k1a [a,b] 0=some (.cont 1):=by
  unfold k1a;rw[show idx [a,b] 0=some a from rfl];simp only[Option.bind_some,t0 a ha];rfl
 have h2:k1a [a,b] 1=some (.cont 2):=by
  unfold k1a;rw[show idx [a,b] 1=some b from rfl];simp only[Option.bind_some,t0 b hb];rfl
 rw[zVa h1,zVa h2,zIa (r:=.inl ()) rfl];rfl
theorem Yya(a t n:Int)(ha:yna a=true)(hn:yna n=true)(ht:1<=t/\t<=1000000)(hle:a<=n):y1a a t n=some ((jAa a t n).1,(jAa a t n).2,⟨0,0⟩):=by
 unfold y1a jAa;obtain ⟨a1,a2⟩:=Qta ha;obtain ⟨n1,n2⟩:=Qta hn;obtain ⟨w1,w2⟩:=Jqa t ht.1;rw[Jra a n ha hn,wait_eq t ht.1];simp only[Option.bind_some,kwa,Bool.not_true,cond_false];rw[decide_eq_false (show ¬t < 1 by omega),decide_eq_false (show ¬(1000000:Int) < t by omega),decide_eq_false (show ¬n < a by omega),vja (n:=a+345600) (by omega) (by omega),vja (n:=n+zob t) (by omega) (by omega)];simp only[cond_false,Option.bind_some];by_cases h:a+345600<=n
 .rw[decide_eq_true h,if_pos h];rfl
 rw[decide_eq_false h,if_neg h];rfl
def badR(v:Int):Bool:=decide (v < 1) || decide (4 < v)
def latR(v:Int):Bool:=v==2 || v==4
def finV(again:Bool)(v:Int):Int:=if latR v then (if again then 0 else 3) else v
def resK(again:Bool)(T:List zda)(kv:Int × Int):List zda:=match T[kv.1.toNat]? with
 | some w=>T.set kv.1.toNat ⟨w.Recipient,finV again kv.2,false⟩
 | none=>T
def resS(again:Bool)(id:Int)(s:List zqa × List zda)(kv:Int × Int):List zqa × List zda:=(if finV again kv.2 !=0 then s.1++ [⟨id,kv.1,finV again kv.2⟩] else s.1,resK again s.2 kv)
theorem Yza(again:Bool)(T:List zda)(kv:Int × Int):(resK again T kv).length=T.length:=by unfold resK;split <;> simp
theorem latB(v:Int):((bif (v==2) then some true else some ((v==4))):Option Bool)=some (latR v):=by unfold latR;cases v==2 <;> rfl
theorem badB(v:Int):((bif decide (v < 1) then some true else some (decide (4 < v))):Option Bool)=some (badR v):=by unfold badR;cases decide (v < 1) <;> rfl
theorem vbb{α:Type}(P:α->Bool)(l:List α):decide (0<=(zTa (fun i x=>if P x then some ((i:Nat):Int) else none) 0 l).getD (-1))=l.any P:=by
 cases hf:zTa (fun i x=>if P x then some ((i:Nat):Int) else none) 0 l with
 | none=>
  rw[qBa]at hf;have:l.any P=false:=by
   rw[List.any_eq_false];intro x hx hP;obtain ⟨i,hi⟩:=List.mem_iff_getElem?.1 hx;have:=hf i x hi;simp[hP]at this
  rw[this];rfl
 | some z=>
  obtain ⟨i,x,h1,h2⟩:=jla hf;cases hP:P x with
  | false=>simp[hP]at h2
  | true=>
   simp[hP]at h2;have:l.any P=true:=List.any_eq_true.2 ⟨x,List.mem_of_getElem? h1,hP⟩;rw[this];exact decide_eq_true (by simp;omega)
theorem Jsa{a:zja}{rs:List Int}{f:zpa}{L:List zba}{n m:Nat}{e e1:zba}{again:Bool}{j3:Int × Int × Int}{j60:Bool × List zba}{j63:Int × List zba}{b:List zba × Nat}
 (hn:n < L.length) (hm:n < b.2) (hl:a.To.length<=1048576) (hrl:rs.length=a.To.length) (hbad:∀v∈rs,badR v=false) (hid:e1.Id=a.Entry) (h3:j3.1=(n:Int)) (h60:rs.any latR=true->j60.1=again) (h63:rs.any latR=true->j63.1=if again then 0 else 3)
 {body:Int × List zqa × List zba->Option (Step (Int × List zqa × List zba) (List zqa × List zba))} (hb:body=qAa a rs ((n:Int),f) b j60∨body=yKa a rs j3 b j63):
 ∀(r p rr pp:List Int) (last:Int) (out:List zqa) (T:List zda),a.To=p++r->rs=pp++rr->p.length=pp.length-> -1<=last->toR e a.Domain true p.length last r=none->T.length=e.To.length->(∀j:Nat,last < (j:Int)->T[j]? =e.To[j]?)->out.length<=p.length->
  iter body ((p.length:Int),out,L.set n (wTo e1 T))=some (((r.zip rr).foldl (resS again a.Entry) (out,T)).1,L.set n (wTo e1 ((r.zip rr).foldl (resS again a.Entry) (out,T)).2)):=by
 have hnown:nown b.2 (n:Int)=some true:=by unfold nown;rw[if_pos (by simpa using hm)]
 intro r;induction r with
 | nil=>
  intro p rr pp last out T hp hpp hpl hla ht hT hj ho;have hp' :a.To=p:=by simpa using hp
  refine zIa ?_;rcases hb with rfl | rfl
  .unfold qAa;dsimp only;rw[<-hp',zEa];rfl
  unfold yKa;dsimp only;rw[<-hp',zEa];rfl
 | cons k r ih=>
  intro p rr pp last out T hp hpp hpl hla ht hT hj ho;have hx:a.To[p.length]? =some k:=by rw[hp];simp
  have hlt:=zGa hx;obtain ⟨v,rr',rfl⟩:∃v rr',rr=v::rr' :=by
   cases rr with
   | nil=>exfalso;rw[hp,hpp]at hrl;simp at hrl;omega
   | cons v rr' =>exact ⟨v,rr',rfl⟩
  have hv:rs[p.length]? =some v:=by rw[hpp,hpl];simp
  have hvb:=hbad v (List.mem_of_getElem? hv);have ht0:=ht;obtain ⟨k0,k1,w,w1,w2,w3,w4⟩:=Ywa _ _ _ _ _ _ hla ht k (by simp);obtain ⟨kn,rfl⟩:∃kn:Nat,k=(kn:Int):=⟨k.toNat,by omega⟩;simp only[Int.toNat_natCast]at w1;have hkT:T[kn]? =some w:=by rw[hj kn k0,w1]
  have hkl:=zGa hkT;have htr:toR e a.Domain true (p.length+1) (kn:Int) r=none:=by
   unfold toR at ht;split at ht
   .cases ht
   simp only[Int.toNat_natCast,w1]at ht;split at ht
   .cases ht
   split at ht
   .cases ht
   exact ht
  have hres:resK again T ((kn:Int),v)=T.set kn ⟨w.Recipient,finV again v,false⟩:=by unfold resK;simp only[Int.toNat_natCast,hkT]
  have hvl:latR v=true->rs.any latR=true:=fun h=>List.any_eq_true.2 ⟨v,List.mem_of_getElem? hv,h⟩
  have hw:idx T (kn:Int)=some w:=zta hkT;have happ:app 5864062014805 out ([⟨a.Entry,(kn:Int),finV again v⟩]:List zqa)=some (out++ [⟨a.Entry,(kn:Int),finV again v⟩]):=qPa (by simp;omega);have hw2:∀x:zda,idx (T.set kn x) (kn:Int)=some x:=fun x=>zta (by simp[hkl])
  have hmk:∀T' :List zda,zba.mk (wTo e1 T).Id (wTo e1 T).Mail (wTo e1 T).Since (wTo e1 T).Tries (wTo e1 T).Due T' =wTo e1 T' :=fun _=>rfl
  have hmk2:∀T'' T' :List zda,zba.mk (wTo e1 T'').Id (wTo e1 T'').Mail (wTo e1 T'').Since (wTo e1 T'').Tries (wTo e1 T'').Due T' =wTo e1 T' :=fun _ _=>rfl
  have hto:∀T' :List zda,(wTo e1 T').To=T' :=fun _=>rfl
  have hids:∀T' :List zda,(wTo e1 T').Id=a.Entry:=fun _=>hid
  have hfin0:latR v=true->again=true->finV again v=0:=fun h1 h2=>by unfold finV;rw[if_pos h1,if_pos h2]
  have hc:body ((p.length:Int),out,L.set n (wTo e1 T))=some (.cont (((p.length+1:Nat):Int),(resS again a.Entry (out,T) ((kn:Int),v)).1,L.set n (wTo e1 (resS again a.Entry (out,T) ((kn:Int),v)).2))):=by
   show body ((p.length:Int),out,L.set n (wTo e1 T))=some (Step.cont (((p.length+1:Nat):Int),(if finV again v !=0 then out++ [⟨a.Entry,(kn:Int),finV again v⟩] else out),L.set n (wTo e1 (resK again T ((kn:Int),v)))));rw[hres];rcases hb with rfl | rfl
   .unfold qAa;dsimp only;rw[zUa hx,zta hx,zta hv];simp only[cond_true,Option.bind_some,hnown,j5a hn,hw,Int.toNat_natCast,latB,hmk2,hto,List.set_set,hw2,sc _ (show p.length < 9223372036854775807 by omega)];cases hlv:latR v with
    | true=>
     rw[h60 (hvl hlv)];cases ha:again with
     | true=>
      have:finV true v=0:=by rw[<-ha];exact hfin0 hlv ha
      rw[this];simp only[cond_true,Option.bind_some];have hww:(⟨w.Recipient,w.Result,false⟩:zda)=⟨w.Recipient,0,false⟩:=by rw[w3]
      rw[hww];rfl
     | false=>
      have hf:finV false v=3:=by unfold finV;rw[if_pos hlv];rfl
      rw[ha,hf]at happ;rw[hf];simp only[cond_true,cond_false,Option.bind_some,j5a hn,hto,hw2,hids,List.set_set,hmk2,happ];rfl
    | false=>
     have hf:finV again v=v:=by unfold finV;rw[hlv];rfl
     rw[hf]at happ;have hv0:(v !=0)=true:=by
      unfold badR at hvb;simp at hvb ⊢;omega
     rw[hf,hv0];simp only[cond_false,Option.bind_some,j5a hn,hto,hw2,hids,List.set_set,hmk2,happ,if_true]
   unfold yKa;dsimp only;rw[zUa hx,zta hx,zta hv,h3];have hj95:((bif latR v then some j63.1 else some v):Option Int)=some (finV again v):=by
    unfold finV;cases hlv:latR v with
    | true=>rw[h63 (hvl hlv)];rfl
    | false=>rfl
   simp only[cond_true,Option.bind_some,hnown,j5a hn,hw,Int.toNat_natCast,latB,hmk2,hto,List.set_set,hw2,hj95,sc _ (show p.length < 9223372036854775807 by omega)];simp only[happ,hw2,Option.bind_some];cases finV again v !=0 <;> rfl
  rw[zVa hc];have:=ih (p++ [(kn:Int)]) rr' (pp++ [v]) (kn:Int) (resS again a.Entry (out,T) ((kn:Int),v)).1 (resS again a.Entry (out,T) ((kn:Int),v)).2 (by simp[hp]) (by simp[hpp]) (by simp[hpl]) (by omega) (by simpa using htr) (by
   show (resK again T ((kn:Int),v)).length=_;rw[Yza,hT]) (fun j hjj=>by
   show (resK again T ((kn:Int),v))[j]? =_;rw[hres,List.getElem?_set_ne (by omega)];exact hj j (by omega)) (by
   show (if finV again v !=0 then out++ [⟨a.Entry,(kn:Int),finV again v⟩] else out).length<=_;split <;> simp <;> omega)
  simpa using this
def wSa(e:zba):Int:=min (e.Tries+1) 1000000
def VDa(e:zba)(rs:List Int)(now:Int):Bool:=if rs.any latR then (jAa e.Since (wSa e) now).2 else true
def vIa(e:zba)(rs:List Int)(now:Int):zba:=if rs.any latR then ⟨e.Id,e.Mail,e.Since,wSa e,if (jAa e.Since (wSa e) now).2 then max (jAa e.Since (wSa e) now).1 e.Due else e.Due,e.To⟩ else e
def resP(e:zba)(a:zja)(rs:List Int)(now:Int):List zqa × List zda:=(a.To.zip rs).foldl (resS (VDa e rs now) a.Entry) ([],e.To)
def VEa(e:zba):Bool:=e.To.any opnW
def noE:zba:=⟨0,⟨⟨[],[],[]⟩,⟨[],[]⟩⟩,0,0,0,[]⟩
def endP(q:zma)(a:zja)(rs:List Int)(now:Int)(n:Nat)(e:zba):zma × List zqa × zpa:=(⟨(q.Entries.set n (wTo (vIa e rs now) (resP e a rs now).2)).filter VEa,q.Next⟩,(resP e a rs now).1,⟨0,0⟩)
def doneP(q:zma)(a:zja)(rs:List Int)(now:Int):zma × List zqa × zpa:=
 if (queF q).Code !=0 then (⟨[],0⟩,[],queF q) else if (attP q a true).2.Code !=0 then (⟨[],0⟩,[],(attP q a true).2) else
 if rs.length≠a.To.length then (⟨[],0⟩,[],⟨9, -6⟩) else if rs.any badR then (⟨[],0⟩,[],⟨3, -6⟩) else if !yna now then (⟨[],0⟩,[],⟨3, -7⟩) else
 if now < ((q.Entries[(attP q a true).1.toNat]?).getD noE).Since then (⟨[],0⟩,[],⟨19, -7⟩) else endP q a rs now (attP q a true).1.toNat ((q.Entries[(attP q a true).1.toNat]?).getD noE)
def VFa(T:List zda)(M:List zca):Prop:=T.length=M.length/\∀(j:Nat) (w:zda) (r:zca),T[j]? =some w->M[j]? =some r->wBad w r=false
theorem Jta(T:List zda)(M:List zca):VFa T M↔(T.length=M.length/\((T.zip M).any fun p=>wBad p.1 p.2)=false):=by
 unfold VFa;refine and_congr Iff.rfl ?_;rw[List.any_eq_false];constructor
 .rintro h ⟨w,r⟩ hx hb;obtain ⟨j,hj⟩:=List.mem_iff_getElem?.1 hx;rw[List.getElem?_zip_eq_some]at hj;rw[h j w r hj.1 hj.2]at hb;cases hb
 intro h j w r h1 h2;have:=h (w,r) (List.mem_of_getElem? (i:=j) (by rw[List.getElem?_zip_eq_some];exact ⟨h1,h2⟩));simpa using this
theorem kLb{again:Bool}{T:List zda}{M:List zca}{kv:Int × Int}(h:VFa T M)(hv:badR kv.2=false):VFa (resK again T kv) M:=by
 refine ⟨by rw[Yza];exact h.1,fun j w r h1 h2=>?_⟩;unfold resK at h1;split at h1
 .rename_i w0 hw0;by_cases hj:kv.1.toNat=j
  .subst hj;rw[List.getElem?_set_self (zGa hw0)]at h1;cases h1;have:=h.2 _ w0 r hw0 h2;unfold wBad at this ⊢;simp only[Bool.or_eq_false_iff]at this;obtain ⟨⟨a1,a2⟩,a3⟩:=this;rw[a1];have:finV again kv.2=0∨finV again kv.2=1∨finV again kv.2=3:=by
    unfold badR at hv;simp at hv;unfold finV;cases hl:latR kv.2 with
    | true=>cases again <;> simp
    | false=>
     unfold latR at hl;simp at hl;simp only[Bool.false_eq_true,if_false];omega
   rcases this with h | h | h <;> simp[h]
  rw[List.getElem?_set_ne hj]at h1;exact h.2 j w r h1 h2
 exact h.2 j w r h1 h2
theorem WGa{again:Bool}{id:Int}{M:List zca}:∀(l:List (Int × Int)) (s:List zqa × List zda),(∀kv∈l,badR kv.2=false)->VFa s.2 M->VFa (l.foldl (resS again id) s).2 M
 | [],s,_,h=>h
 | kv::l,s,hb,h=>WGa l _ (fun x hx=>hb x (by simp[hx])) (kLb h (hb kv (by simp)))
theorem kMb{e:zba}(h:VFa e.To e.Mail.Envelope.To):Zsa e=VEa e:=by
 unfold Zsa VEa;rw[Jta]at h;rw[decide_eq_true h.1,h.2];rfl
theorem KGa{e:zba}(h:Zsa e=true):VFa e.To e.Mail.Envelope.To/\VEa e=true:=by
 unfold Zsa at h;simp only[Bool.and_eq_true,decide_eq_true_eq,Bool.not_eq_true']at h;exact ⟨(Jta _ _).2 ⟨h.1.1,h.1.2⟩,h.2⟩
theorem Jua{α:Type}{L:List α}{n:Nat}(x:α)(hn:n < L.length):L.set n x=L.take n++x::L.drop (n+1):=by
 rw[List.set_eq_take_append_cons_drop,if_pos hn]
theorem kNb{L:List zba}{n:Nat}{x:zba}(hn:n < L.length)(h:∀e∈L,VEa e=true):(L.set n x).filter VEa=if VEa x then L.set n x else L.take n++L.drop (n+1):=by
 rw[Jua x hn,List.filter_append,List.filter_cons,List.filter_eq_self.2 (fun e he=>h e (List.mem_of_mem_take he)),List.filter_eq_self.2 (fun e he=>h e (List.mem_of_mem_drop he))];split <;> rfl
theorem vcb{L2:List zba}{n:Nat}{x:zba}(hn:n < L2.length)(hl:L2.length<=1048576)(hx:L2[n]? =some x)(hxl:x.To.length<=1048576)(hg:VFa x.To x.Mail.Envelope.To):((idx L2 (n:Int)).bind fun v137=>(qza v137).bind fun v139=>(bif (!v139) then ((cut3 L2 (n:Int) ((w64 ((n:Int)+1))) ((L2.length:Int))).bind fun v143=>(bif ((n:Int)==(w64 ((n:Int)+1))) then some L2 else (cut L2 0 (n:Int)).bind fun v146=>(cut L2 ((w64 ((n:Int)+1))) (L2.length:Int)).bind fun v148=>(shft L2 (n:Int) ((w64 ((n:Int)+1)))).bind fun v150=>(Q4a v150 (((((Int.toNat (n:Int))+(L2.length - (Int.toNat ((w64 ((n:Int)+1)))))):Nat):Int)) ((L2.length:Int))).bind fun v152=>some ((List.take ((Int.toNat (n:Int))+(L2.length - (Int.toNat ((w64 ((n:Int)+1)))))) ((clr0 v150 (Int.toNat (((((Int.toNat (n:Int))+(L2.length - (Int.toNat ((w64 ((n:Int)+1)))))):Nat):Int))) ((zba.mk 0 ((z0a.mk ((zwa.mk (([]:Str)) ([]) (([]:Str)))) ((zsa.mk ([]) ([]))))) 0 0 0 ([])))))))):Option (List zba)).bind fun (j142:List zba)=>some j142 else some L2):Option (List zba))=some (if VEa x then L2 else L2.take n++L2.drop (n+1)):=by
 rw[zta hx];simp only[Option.bind_some];rw[jxa x hxl,kMb hg];simp only[Option.bind_some];cases VEa x with
 | true=>rfl
 | false=>
  simp only[Bool.not_false,cond_true,Bool.false_eq_true,if_false];rw[delAt_eq L2 n _ hn hl];rfl
theorem zRb(rs:List Int)(P:Int->Bool)(hl:rs.length<=1048576){body:Int->Option (Step Int (Unit ⊕ Int))}(hout:body (rs.length:Int)=some (.out (.inl ())))(hb:∀(i:Nat) (v:Int),rs[i]? =some v->body (i:Int)=some (if P v then .out (.inr (i:Int)) else .cont ((i+1:Nat):Int))):
 ∃z:Int,((iter body 0).bind (Sum.elim (fun _=>some ((-1))) (fun b=>some b)):Option Int)=some z/\decide (0<=z)=rs.any P:=by
 refine ⟨_,?_,vbb P rs⟩;rw[zKa rs (fun i x=>if P x then some ((i:Nat):Int) else none) (.inl ()) .inr]
 .simp only[Option.bind_some,Kwa]
 .exact hout
 intro i x hx;rw[hb i x hx];cases P x <;> rfl
theorem any_bad(rs:List Int)(hl:rs.length<=1048576):∃z:Int,((iter (v4a rs) 0).bind (Sum.elim (fun _=>some ((-1))) (fun b=>some b)):Option Int)=some z/\decide (0<=z)=rs.any badR:=
 zRb rs badR hl (by unfold v4a;rw[zEa];rfl) (fun i v hv=>by
  have:=zGa hv;unfold v4a;rw[zUa hv,zta hv];simp only[cond_true,Option.bind_some,badB,sc i (by omega)];cases badR v <;> rfl)
theorem any_late(rs:List Int)(hl:rs.length<=1048576):∃z:Int,((iter (v5a rs) 0).bind (Sum.elim (fun _=>some ((-1))) (fun b=>some b)):Option Int)=some z/\decide (0<=z)=rs.any latR:=
 zRb rs latR hl (by unfold v5a;rw[zEa];rfl) (fun i v hv=>by
  have:=zGa hv;unfold v5a;rw[zUa hv,zta hv];simp only[cond_true,Option.bind_some,latB,sc i (by omega)];cases latR v <;> rfl)
theorem lateE_id(e:zba)(rs:List Int)(now:Int):(vIa e rs now).Id=e.Id:=by unfold vIa;split <;> rfl
theorem kOb(e:zba)(rs:List Int)(now:Int):(vIa e rs now).Mail=e.Mail:=by unfold vIa;split <;> rfl
theorem zSb(e:zba)(rs:List Int)(now:Int):wTo (vIa e rs now) e.To=vIa e rs now:=by unfold vIa;split <;> rfl
theorem resP_len(e:zba)(a:zja)(rs:List Int)(now:Int):(resP e a rs now).2.length=e.To.length:=by
 unfold resP;have:∀(l:List (Int × Int)) (s:List zqa × List zda),(l.foldl (resS (VDa e rs now) a.Entry) s).2.length=s.2.length:=by
  intro l;induction l with
  | nil=>intro s;rfl
  | cons kv l ih=>intro s;rw[List.foldl_cons,ih];exact Yza _ _ _
 rw[this]
theorem zip_bad{ks rs:List Int}(h:∀v∈rs,badR v=false):∀kv∈ks.zip rs,badR kv.2=false:=fun kv hkv=>h kv.2 (List.of_mem_zip hkv).2
theorem YAa(q:zma)(a:zja)(rs:List Int)(now:Int)(hq:yBa q)(hw:VCa q)(hl:a.To.length<=1048576)(hrs:rs.length<=1048576):y2a q a rs now=some (doneP q a rs now):=by
 unfold y2a doneP;rw[jza q a true hq hw hl];simp only[Option.bind_some,kga,zOa,kwa,v7a];by_cases hc:(queF q).Code=0
 .obtain ⟨ok,hF⟩:=ZZa hc;have h1:((queF q).Code !=0)=false:=by simp[hc]
  have hn:=ok.n;rw[h1];simp only[Bool.false_eq_true,if_false];by_cases hca:(attP q a true).2.Code=0
  .obtain ⟨n,e,ha,he,hid,ht,t1,t2⟩:=vab hca;have hne:=zGa he;have hem:=List.mem_of_getElem? he;obtain ⟨o1,o2,o3,o4,o5⟩:=ok.ent e hem;rw[ha];simp only[bne_self_eq_false,cond_false,Bool.false_eq_true,if_false,Int.toNat_natCast,he,Option.getD_some];by_cases hlen:rs.length=a.To.length
   .rw[show ((rs.length:Int) !=(a.To.length:Int))=false by rw[hlen];simp,if_neg (fun h=>h hlen)];simp only[cond_false];obtain ⟨z,hz,hzd⟩:=any_bad rs hrs;rw[hz];simp only[Option.bind_some,hzd];cases hbad:rs.any badR with
    | true=>rfl
    | false=>
     simp only[cond_false,Bool.false_eq_true,if_false];show (bif !yna now then _ else _)=_;cases htm:yna now with
     | false=>rfl
     | true=>
      simp only[Bool.not_true,cond_false,Bool.false_eq_true,if_false,zta he,Option.bind_some];by_cases hsi:now < e.Since
      .rw[decide_eq_true hsi,if_pos hsi];rfl
      rw[decide_eq_false hsi,if_neg hsi];simp only[cond_false];rw[q3a _ (by omega)];simp only[Option.bind_some];rw[show iter (jka q.Entries) (0,0,q.Entries)=some (q.Entries,q.Entries.length) from Vxa q.Entries (WFa hq ok)];simp only[Option.bind_some,zta he];have hbads:∀v∈rs,badR v=false:=fun v hv=>by rw[List.any_eq_false]at hbad;simpa using hbad v hv
      have hg:VFa (wTo (vIa e rs now) (resP e a rs now).2).To (wTo (vIa e rs now) (resP e a rs now).2).Mail.Envelope.To:=by
       show VFa (resP e a rs now).2 (vIa e rs now).Mail.Envelope.To;rw[kOb];exact WGa _ _ (zip_bad hbads) (KGa o5).1
      have hto:=(hw e hem).1;have htail:=vcb (L2:=q.Entries.set n (wTo (vIa e rs now) (resP e a rs now).2)) (n:=n) (x:=wTo (vIa e rs now) (resP e a rs now).2) (by simpa using hne) (by simp;omega) (by simp[hne]) (by show (resP e a rs now).2.length<=_;rw[resP_len];omega) hg;have hfil:=kNb (L:=q.Entries) (x:=wTo (vIa e rs now) (resP e a rs now).2) hne (fun y hy=>(KGa (ok.ent y hy).2.2.2.2).2);have hfil2:(if VEa (wTo (vIa e rs now) (resP e a rs now).2) then q.Entries.set n (wTo (vIa e rs now) (resP e a rs now).2) else (q.Entries.set n (wTo (vIa e rs now) (resP e a rs now).2)).take n++(q.Entries.set n (wTo (vIa e rs now) (resP e a rs now).2)).drop (n+1))=(q.Entries.set n (wTo (vIa e rs now) (resP e a rs now).2)).filter VEa:=by
       rw[hfil];split
       .rfl
       rw[Jua _ hne];have hln:(q.Entries.take n).length=n:=by simp;omega
       rw[List.take_append_of_le_length (by omega),List.take_of_length_le (by omega),List.drop_append,hln,List.drop_of_length_le (by omega)];simp
      rw[hfil2]at htail;simp only[Int.toNat_natCast]at htail;obtain ⟨y,hy,hyd⟩:=any_late rs hrs;rw[hy];simp only[Option.bind_some,hyd];have hrng:=o4;unfold rngQ at hrng;simp only[Bool.and_eq_true,decide_eq_true_eq]at hrng;have htr:1<=wSa e/\wSa e<=1000000:=by unfold wSa;omega
      have hid1:(vIa e rs now).Id=a.Entry:=by rw[lateE_id,hid]
      cases hlat:rs.any latR with
      | false=>
       simp only[cond_false,Option.bind_some];have hs:vIa e rs now=e:=by unfold vIa;rw[hlat];rfl
       have hlp:=Jsa (a:=a) (rs:=rs) (f:=⟨0,0⟩) (L:=q.Entries) (n:=n) (e:=e) (e1:=vIa e rs now) (again:=VDa e rs now) (j3:=((n:Int),0,0)) (j60:=(true,q.Entries)) (j63:=(0,[])) (b:=(q.Entries,q.Entries.length)) (m:=0) hne hne hl hlen hbads hid1 rfl (fun h=>by rw[hlat]at h;cases h) (fun h=>by rw[hlat]at h;cases h) (.inl rfl) a.To [] rs [] (-1) [] e.To rfl rfl rfl (by omega) ht rfl (fun j _=>rfl) (Nat.le_refl _);have hs0:q.Entries.set n (vIa e rs now)=q.Entries:=by rw[hs,Yva he]
       rw[zSb,hs0]at hlp;rw[show iter (qAa a rs ((n:Int),⟨0,0⟩) (q.Entries,q.Entries.length) (true,q.Entries)) (0,([]:List zqa),q.Entries)=some ((resP e a rs now).1,q.Entries.set n (wTo (vIa e rs now) (resP e a rs now).2)) from hlp];simp only[Option.bind_some];rw[htail];rfl
      | true=>
       have hw64:w64 (e.Tries+1)=e.Tries+1:=vja (by omega) (by omega);simp only[cond_true,Option.bind_some,j5a hne,hw64,Int.toNat_natCast,List.set_set];rw[show min (e.Tries+1) 1000000=wSa e from rfl];rw[Yya e.Since (wSa e) now hrng.1.1.1 htm htr (by omega)];simp only[Option.bind_some];have hag:VDa e rs now=(jAa e.Since (wSa e) now).2:=by unfold VDa;rw[hlat];rfl
       have hj:∀X:List zba,X=q.Entries.set n (vIa e rs now)->iter (qAa a rs ((n:Int),⟨0,0⟩) (q.Entries,q.Entries.length) ((jAa e.Since (wSa e) now).2,X)) (0,([]:List zqa),X)=some ((resP e a rs now).1,q.Entries.set n (wTo (vIa e rs now) (resP e a rs now).2)):=by
        rintro X rfl;have hlp:=Jsa (a:=a) (rs:=rs) (f:=⟨0,0⟩) (L:=q.Entries) (n:=n) (e:=e) (e1:=vIa e rs now) (again:=VDa e rs now) (j3:=((n:Int),0,0)) (j60:=((jAa e.Since (wSa e) now).2,q.Entries.set n (vIa e rs now))) (j63:=(if VDa e rs now then 0 else 3,[])) (b:=(q.Entries,q.Entries.length)) (m:=0) hne hne hl hlen hbads hid1 rfl (fun h=>hag.symm) (fun h=>rfl) (.inl rfl) a.To [] rs [] (-1) [] e.To rfl rfl rfl (by omega) ht rfl (fun j _=>rfl) (Nat.le_refl _);rw[zSb]at hlp;exact hlp
       have hlate:vIa e rs now=⟨e.Id,e.Mail,e.Since,wSa e,if (jAa e.Since (wSa e) now).2 then max (jAa e.Since (wSa e) now).1 e.Due else e.Due,e.To⟩:=by unfold vIa;rw[hlat];rfl
       cases hg2:(jAa e.Since (wSa e) now).2 with
       | true=>
        rw[hg2]at hj hlate;simp only[cond_true,Option.bind_some,j5a hne,List.set_set,Int.toNat_natCast];rw[hj _ (by rw[hlate];rfl)];simp only[Option.bind_some];rw[htail];rfl
       | false=>
        rw[hg2]at hj hlate;simp only[cond_false,Option.bind_some];rw[hj _ (by rw[hlate];rfl)];simp only[Option.bind_some];rw[htail];rfl
   rw[show ((rs.length:Int) !=(a.To.length:Int))=true by simp;omega,if_pos hlen];rfl
  have h2:((attP q a true).2.Code !=0)=true:=by simpa using hca
  rw[h2];rfl
 have h1:((queF q).Code !=0)=true:=by simpa using hc
 rw[h1];simp only[if_true,h1,cond_true]
theorem wEa{q:zma}(h:zma.bk q<=1048576):yBa q/\VCa q:=by
 have h0:zma.bk q=bkL zba.bk q.Entries+1+1:=rfl;have h1:=Vqa (bk:=zba.bk) (fun x=>by unfold zba.bk;omega) q.Entries;have key:∀e∈q.Entries,joa e.Mail/\Z0a e.To:=fun e he=>by
  have h2:=Yka (bk:=zba.bk) he;have h3:zba.bk e=1+z0a.bk e.Mail+1+1+1+bkL zda.bk e.To+1:=rfl;have h4:=Vqa (bk:=zda.bk) (fun x=>by unfold zda.bk;omega) e.To;refine ⟨K9a (by omega),by omega,fun w hw=>?_⟩;have h5:=Yka (bk:=zda.bk) hw;have h6:zda.bk w=(w.Recipient.Address.length+1+1+1)+1+1+1:=rfl;omega
 exact ⟨⟨by omega,fun e he=>⟨(key e he).1,(key e he).2.1⟩⟩,fun e he=>(key e he).2⟩
theorem kPb(l:List Int)(h:l.length<=1048576):Wsa l l=some true:=by
 unfold Wsa;simp only[bne_self_eq_false,cond_false];rw[zKa l (fun _ _=>(none:Option Bool)) (.inl ()) .inr]
 .rw[qBa.2 (fun _ _ _=>rfl)];rfl
 .unfold Koa;rw[zEa];rfl
 intro k w hw;have hk:=zGa hw;unfold Koa;rw[zUa hw,zta hw];simp only[cond_true,Option.bind_some,bne_self_eq_false,cond_false,sc k (by omega)];rfl
theorem vdb(l:List Str)(hl:l.length<=1048576):Kpa l=some ⟨⟨[115,64,120],l.map (fun s=>⟨s,1⟩),[55]⟩,⟨[],[]⟩⟩:=by
 unfold Kpa;have:=(Kua l (fun i (s:List zca)=>(i,s)) (fun s x=>s++ [(⟨x,1⟩:zca)]) id (fun i s=>s.length<=i) (body:=yha l)
  (fun s _=>by unfold yha;simp[zEa]) (fun i x s hx hi=>by
   have hlt:=zGa hx;refine ⟨?_,by simp;omega⟩;unfold yha;dsimp only;rw[zUa hx,zta hx];simp only[cond_true,Option.bind_some,sc i (by omega)];rw[qPa (by simp;omega)];rfl) [] (by simp)).1
 rw[this,zOb];rfl
def exM:z0a:=⟨⟨[115,64,120],[⟨[97,64,121],1⟩,⟨[98,64,121],1⟩,⟨[99,64,122],1⟩],[55]⟩,⟨[],[]⟩⟩
def exQ:zma:=⟨[⟨0,exM,0,0,0,[⟨⟨[97,64,121],1⟩,0,false⟩,⟨⟨[98,64,121],1⟩,0,false⟩,⟨⟨[99,64,122],1⟩,0,false⟩]⟩],1⟩
def exQ2:zma:=⟨[⟨0,exM,0,0,0,[⟨⟨[97,64,121],1⟩,0,true⟩,⟨⟨[98,64,121],1⟩,0,true⟩,⟨⟨[99,64,122],1⟩,0,false⟩]⟩],1⟩
def exQ3:zma:=⟨[⟨0,exM,0,1,70,[⟨⟨[97,64,121],1⟩,1,false⟩,⟨⟨[98,64,121],1⟩,0,false⟩,⟨⟨[99,64,122],1⟩,0,false⟩]⟩],1⟩
def exA:zja:=⟨0,[121],[0,1]⟩
theorem ex_add:addP ⟨[],0⟩ exM 0=(exQ,0,⟨0,0⟩):=by rfl
theorem ex_ready:q7b exQ 0=([exA,⟨0,[122],[2]⟩],⟨0,0⟩):=by rfl
theorem ex_take:takeP exQ exA=(exQ2,⟨0,0⟩):=by rfl
theorem ex_done:doneP exQ2 exA [1,2] 10=(exQ3,[⟨0,0,1⟩],⟨0,0⟩):=by rfl
theorem zpb:Ksa=some exQ:=by
 unfold Ksa;rw[vdb _ (by decide)];simp only[Option.bind_some];rw[show (z0a.mk ⟨[115,64,120],([[97,64,121],[98,64,121],[99,64,122]]:List Str).map (fun s=>(⟨s,1⟩:zca)),[55]⟩ ⟨[],[]⟩)=exM from rfl];rw[Qqa _ _ _ (wEa (by decide)).1 (K9a (by decide)),ex_add];rfl
theorem V3a:jYa=some true:=by
 unfold jYa;rw[zpb];simp only[Option.bind_some];rw[V2a _ _ (wEa (q:=exQ) (by decide)).1 (wEa (q:=exQ) (by decide)).2,ex_ready];simp only[Option.bind_some];rw[show (idx ([exA,⟨0,[122],[2]⟩]:List zja) 0)=some exA from rfl];simp only[Option.bind_some];rw[Yxa _ _ (wEa (q:=exQ) (by decide)).1 (wEa (q:=exQ) (by decide)).2 (by decide),ex_take];simp only[Option.bind_some];rw[YAa _ _ _ _ (wEa (q:=exQ2) (by decide)).1 (wEa (q:=exQ2) (by decide)).2 (by decide) (by decide),ex_done];simp only[Option.bind_some];rw[show Wsa exA.To [0,1]=some true from kPb [0,1] (by decide)];rfl
theorem kQb(q:zma)(m:z0a)(now:Int)(hq:yBa q)(hm:joa m):yBa (addP q m now).1:=by
 have he:yBa ⟨[],0⟩:=⟨by simp,fun e he=>by cases he⟩;unfold addP;split
 .exact he
 rename_i h0;split
 .exact he
 split
 .exact he
 split
 .exact he
 have hc:(queF q).Code=0:=by simpa using h0
 obtain ⟨ok,_⟩:=ZZa hc;have hn:=ok.n;refine ⟨by simp;omega,fun e he=>?_⟩;rcases List.mem_append.1 he with he | he
 .exact hq.2 e he
 rw[List.mem_singleton.1 he];refine ⟨hm,?_⟩;show (m.Envelope.To.map _).length<=_;rw[List.length_map];exact hm.1.2.2.1
theorem ypa(a0:zma)(a1:z0a)(a2:Int)(o0:zma.ok a0)(o1:z0a.ok a1)(o2:ok64 a2)(hk:zma.bk a0+z0a.bk a1+1<=1048576):kNa a0 a1 a2=some true:=by
 obtain ⟨hq,hw⟩:=wEa (q:=a0) (by omega);have hm:joa a1:=K9a (by omega);unfold kNa;rw[Qqa a0 a1 a2 hq hm,zlb a0 a1 a2 hq hm,V3a,vfa a0 hq,jya a0 hq];simp only[Option.bind_some,cond_true,beq_self_eq_true];rw[Qaa _ (kQb a0 a1 a2 hq hm)];rfl
theorem Jva(a0:List Str)(r:z0a)(hr:Kpa a0=some r):Run prog 72 [.l cS a0] (.agg [.s r.Envelope.From,.l zca.pc r.Envelope.To,.s r.Envelope.Id,.l zga.pc r.Message.Fields,.l cU r.Message.Body]):=by
 unfold Kpa at hr;refine rf (fn:=f72) ⟨func72,rfl,by kernel_rfl⟩ rfl (fun _=>rfl) fun g0 hg=>?_
 refine rn tk 10 rfl ?_;refine ZNa 1003 (o:=3) (j:=1) 61 2 rfl rfl rfl rfl (hO ?_);refine rn tk 1 rfl ?_;refine ZNa 2003 (o:=3) (j:=1) 61 2 rfl rfl rfl rfl (hO ?_);refine rn tk 9 rfl<|al1 hr (fun s1=>[(0,.l cS a0),(2,.ptr 2 0),(3,.ptr 3 0),(4,.i s1.1)]) (fun s1=>[(2003,.row 61 false 2 (List.map zca.pc s1.2)),(3,.cells [.s (([115,64,120]:Str)),.hs 2003 0,.s (([55]:Str)),.l zga.pc ([]),.l cU ([])]),(2,.cells [.s (([]:Str)),.l zca.pc ([]),.s (([]:Str)),.l zga.pc ([]),.l cU ([])])]) (.exit 0) (fun b2=>[(2,.ptr 2 0),(3,.ptr 3 0)]) (fun b2=>[(2003,.row 61 false 2 (List.map zca.pc b2)),(3,.cells [.s (([115,64,120]:Str)),.hs 2003 0,.s (([55]:Str)),.l zga.pc ([]),.l cU ([])]),(2,.cells [.s (([]:Str)),.l zca.pc ([]),.s (([]:Str)),.l zga.pc ([]),.l cU ([])])]) rfl rfl (fun s1 x3 hr=>?_) (fun b2 hr=>?_)
 .unfold yha at hr;refine rn tk 5 rfl<|wn tk rfl rfl rfl<|rn tk 3 rfl<|ac 10 hr rfl (fun c4 hr=>?_) (fun c4 hr=>?_)
  .refine rn tk 4 rfl ?_;obtain ⟨v5,h6,hr⟩:=zaa hr;refine dr 9 [(21,.l zca.pc (([(zca.mk v5 1)]:List zca))),(20,.agg [.s v5,.i 1]),(19,.s v5),(18,.ep [pS v5]),(17,.i s1.1),(16,.l cS a0),(15,.hs 2003 0),(14,.ptr 3 1),(13,.ptr 3 0)] mixed (by kernel_rfl) rfl rfl (pq tk rfl (.plain rfl) (pq tk rfl (.plain rfl) (pq tk rfl (.plain rfl) (pq tk rfl (.plain rfl) (pq tk rfl (.plain rfl) (.run (.plain rfl) (zQa (vKa (f:=cS) rfl rfl Via zCa rfl h6)) (pq tk rfl (.plain rfl) (pq tk rfl (.plain rfl) (.run (.plain rfl) (yHa (F:=zca.pc) (l:=([(zca.mk v5 1)]:List zca)) zDa zBa rfl (fun _=>rfl) rfl rfl) .nil))))))))) rfl ?_;obtain ⟨v7,h8,hr⟩:=zaa hr;refine wa tk h8 rfl rfl rfl rfl (fun _=>rfl) rfl rfl<|rn tk 11 rfl ?_;cases hr;exact atc rfl rfl
  refine rn tk 2 rfl ?_;cases hr;exact ato rfl rfl rfl rfl
 refine rn tk 8 rfl ?_;refine Kca (o:=2) (j:=1) (F:=zca.pc) (l:=b2) rfl rfl rfl (hC ?_);refine rn tk 1 rfl ?_;cases hr;exact kr tk (.inr rfl) rfl rfl
theorem zWa(a0:zpa)(r:Bool)(hr:z5a a0=some r):Run prog 27 [.agg [.i a0.Code,.i a0.Index]] (.bo r):=by
 unfold z5a at hr;refine rf (fn:=Tryz.f27) ⟨func27,rfl,by kernel_rfl⟩ rfl (fun _=>rfl) fun g0 hg=>?_
 refine rn tk 15 rfl ?_;cases hr;exact kr tk (.inr rfl) rfl rfl
theorem zia(a0:Int)(a1:Int)(r:zpa)(hr:zna a0 a1=some r):Run prog 29 [.i a0,.i a1] (.agg [.i r.Code,.i r.Index]):=by
 unfold zna at hr;refine rf (fn:=Tryz.f29) ⟨func29,rfl,by kernel_rfl⟩ rfl (fun _=>rfl) fun g0 hg=>?_
 refine rn tk 14 rfl ?_;cases hr;exact kr tk (.inr rfl) rfl rfl
theorem zPa(r:zpa)(hr:kia=some r):Run prog 33 [] (.agg [.i r.Code,.i r.Index]):=by
 unfold kia at hr;refine rf (fn:=f33) ⟨func33,rfl,by kernel_rfl⟩ rfl (fun _=>rfl) fun g0 hg=>?_
 refine rn tk 12 rfl ?_;cases hr;exact kr tk (.inr rfl) rfl rfl
theorem qMa(a0:Int)(r:Bool)(hr:qia a0=some r):Run prog 30 [.i a0] (.bo r):=by
 unfold qia at hr;refine KOa (fn:=f30) ⟨func30,rfl,by kernel_rfl⟩ rfl (fun _=>rfl) fun g0 hg=>?_
 refine vSa ?_;refine kOa ?_;refine zLa rfl (zSa (d:=2) rfl rfl vVa) ?_;refine q6a<|kka ?_;obtain ⟨j1,hx,hy⟩:=zaa hr;refine WSa (fun j1=>[(2,.bo j1)]) (fun j1=>[]) (fun z=>j1=z) ?_ ?_
 .have hr:=hx;clear hx hy;refine kOa ?_;refine zLa rfl (zSa (d:=3) rfl rfl vUa) ?_;refine zLa rfl (zSa (d:=4) rfl rfl (ev_geq rfl rfl)) ?_;refine zLa rfl (zSa (d:=5) rfl rfl vUa)<|yPa (decide ((-68719476736)<=a0)) (fun c2=>?_) (fun c2=>?_)
  .replace hr:=QRa c2 hr
   refine WNa (d:=5) rfl rfl rfl c2 (zSa (d:=6) rfl rfl vUa) ?_;refine WNa (d:=5) rfl rfl rfl c2 (zSa (d:=7) rfl rfl (ev_leq rfl rfl)) ?_;refine zLa rfl (zSa (d:=8) rfl rfl (qRa rfl c2)) ?_;refine zLa rfl (zSa (d:=2) rfl rfl vVa) ?_;refine q6a ?_;cases hr;exact Qga _ rfl (zea rfl zJa) zxa
  replace hr:=QSa c2 hr
  refine WOa (d:=5) rfl rfl rfl c2 ?_;refine WOa (d:=5) rfl rfl rfl c2 ?_;refine zLa rfl (zSa (d:=8) rfl rfl (jIa rfl c2)) ?_;refine zLa rfl (zSa (d:=2) rfl rfl vVa) ?_;refine q6a ?_;cases hr;exact Qga _ rfl (zea rfl zJa) zxa
 rintro _ rfl;have hr:=hy;clear hx hy;refine WKa ?_;cases hr;exact kret' rfl (.cons (WQa rfl) .nil) rfl
theorem jBa(a0:UInt8)(r:Bool)(hr:vMa a0=some r):Run prog 111 [.u8 a0] (.bo r):=by
 unfold vMa at hr;refine rf (fn:=f111) ⟨func111,rfl,by kernel_rfl⟩ rfl (fun _=>rfl) fun g0 hg=>?_
 refine rn tk 5 rfl<|jb hr (fun j1=>[(2,.bo j1)]) (fun j1=>[]) (fun j1 hr=>?_) (fun j1 hr=>?_)
 .refine rn tk 4 rfl<|bs 5 hr rfl (fun c2 hr=>?_) (fun c2 hr=>?_)
  .refine rn tk 4 rfl<|bs 9 hr rfl (fun c3 hr=>?_) (fun c3 hr=>?_)
   .refine rn tk 17 rfl ?_;cases hr;exact jn _ rfl rfl rfl
   refine rn tk 3 rfl<|bs 12 hr rfl (fun c4 hr=>?_) (fun c4 hr=>?_)
   .refine rn tk 5 rfl<|bs 17 hr rfl (fun c5 hr=>?_) (fun c5 hr=>?_)
    .refine rn tk 9 rfl ?_;cases hr;exact jn _ rfl rfl rfl
    refine rn tk 3 rfl<|bs 20 hr rfl (fun c6 hr=>?_) (fun c6 hr=>?_)
    .refine rn tk 6 rfl ?_;cases hr;exact jn _ rfl rfl rfl
    refine rn tk 6 rfl ?_;cases hr;exact jn _ rfl rfl rfl
   refine rn tk 8 rfl<|bs 20 hr rfl (fun c7 hr=>?_) (fun c7 hr=>?_)
   .refine rn tk 6 rfl ?_;cases hr;exact jn _ rfl rfl rfl
   refine rn tk 6 rfl ?_;cases hr;exact jn _ rfl rfl rfl
  refine rn tk 7 rfl<|bs 12 hr rfl (fun c8 hr=>?_) (fun c8 hr=>?_)
  .refine rn tk 5 rfl<|bs 17 hr rfl (fun c9 hr=>?_) (fun c9 hr=>?_)
   .refine rn tk 9 rfl ?_;cases hr;exact jn _ rfl rfl rfl
   refine rn tk 3 rfl<|bs 20 hr rfl (fun c10 hr=>?_) (fun c10 hr=>?_)
   .refine rn tk 6 rfl ?_;cases hr;exact jn _ rfl rfl rfl
   refine rn tk 6 rfl ?_;cases hr;exact jn _ rfl rfl rfl
  refine rn tk 8 rfl<|bs 20 hr rfl (fun c11 hr=>?_) (fun c11 hr=>?_)
  .refine rn tk 6 rfl ?_;cases hr;exact jn _ rfl rfl rfl
  refine rn tk 6 rfl ?_;cases hr;exact jn _ rfl rfl rfl
 refine rn tk 1 rfl ?_;cases hr;exact kr tk (.inr rfl) rfl rfl
theorem V4a(a0:Str)(r:Bool)(hr:yTa a0=some r):Run prog 86 [.s a0] (.bo r):=by
 unfold yTa at hr;refine rf (fn:=f86) ⟨func86,rfl,by kernel_rfl⟩ rfl (fun _=>rfl) fun g0 hg=>?_
 refine rn tk 5 rfl<|jb hr (fun j1=>[(2,.bo j1)]) (fun j1=>[]) (fun j1 hr=>?_) (fun j1 hr=>?_)
 .refine rn tk 4 rfl<|bs 5 hr rfl (fun c2 hr=>?_) (fun c2 hr=>?_)
  .refine rn tk 5 rfl<|bs 10 hr rfl (fun c3 hr=>?_) (fun c3 hr=>?_)
   .refine rn tk 1 rfl<|ug rfl rfl rfl<|ct hr (fun j4=>[(10,.bo true),(12,.bo j4)]) (fun j4=>[]) (fun j4 hr jump4=>?_) (fun j4 hr=>?_)
    .refine il (fn:=f109) (args:=[.s a0,.fn (.func 110) [] []]) 400000 499999 [(10,.bo true)] rfl ⟨func109,rfl,by kernel_rfl⟩ rfl rfl rfl fun T4 ds4=>?_
     refine rn tk 14 rfl<|al2 hr (fun s5=>[(0,.s a0),(1,.fn (.func 110) [] []),(7,.i ((a0.length:Int))),(8,.i s5)]) (fun s5=>[(499999,.sus g0.w.heap.size ds4),(400010,.hold (.bo true) (T4.getD 10 undef))]) (.exit 0) (fun b6=>[]) (fun b6=>[(499999,.sus g0.w.heap.size ds4),(400010,.hold (.bo true) (T4.getD 10 undef))]) .ret (fun b7=>[(4,.bo false)]) (fun b7=>[(499999,.sus g0.w.heap.size ds4),(400010,.hold (.bo true) (T4.getD 10 undef))]) rfl rfl (fun s5 x9 hr=>?_) (fun b6 hr=>?_) (fun b7 hr=>?_)
     .unfold vYa at hr;refine rn tk 6 rfl<|ac 9 hr rfl (fun c10 hr=>?_) (fun c10 hr=>?_)
      .refine rn tk 15 rfl ?_;obtain ⟨v11,h12,hr⟩:=zaa hr;refine ws tk h12 rfl rfl rfl rfl<|il (fn:=f110) (args:=[.u8 v11]) 600000 699999 [(0,.s a0),(1,.fn (.func 110) [] []),(7,.i ((a0.length:Int))),(8,.i s5)] rfl ⟨func110,rfl,by kernel_rfl⟩ rfl rfl rfl fun T6 ds6=>?_
       refine rn tk 5 rfl<|jb hr (fun j13=>[(2,.bo j13)]) (fun j13=>[(699999,.sus g0.w.heap.size ds6),(600000,.hold (.s a0) (T6.getD 0 undef)),(600001,.hold (.fn (.func 110) [] []) (T6.getD 1 undef)),(600007,.hold (.i ((a0.length:Int))) (T6.getD 7 undef)),(600008,.hold (.i s5) (T6.getD 8 undef)),(499999,.sus g0.w.heap.size ds4),(400010,.hold (.bo true) (T4.getD 10 undef))]) (fun j13 hr=>?_) (fun j13 hr=>?_)
       .refine rn tk 2 rfl ?_;obtain ⟨v14,h15,hr⟩:=zaa hr;refine cl (jBa _ _ h15) rfl rfl<|rn tk 1 rfl<|bs 5 hr rfl (fun c16 hr=>?_) (fun c16 hr=>?_)
        .refine rn tk 13 rfl ?_;cases hr;exact jn _ rfl rfl rfl
        refine rn tk 4 rfl<|bs 9 hr rfl (fun c17 hr=>?_) (fun c17 hr=>?_)
        .refine rn tk 9 rfl ?_;cases hr;exact jn _ rfl rfl rfl
        refine rn tk 4 rfl<|bs 13 hr rfl (fun c18 hr=>?_) (fun c18 hr=>?_)
        .refine rn tk 5 rfl ?_;cases hr;exact jn _ rfl rfl rfl
        refine rn tk 5 rfl ?_;cases hr;exact jn _ rfl rfl rfl
       refine rn tk 1 rfl ?_;refine ie tk [.bo j13] [(0,.s a0),(1,.fn (.func 110) [] []),(7,.i ((a0.length:Int))),(8,.i s5)] [(499999,.sus g0.w.heap.size ds4),(400010,.hold (.bo true) (T4.getD 10 undef))] (.inr rfl) rfl rfl rfl rfl (hO ?_);refine rn tk 3 rfl<|ac 16 hr rfl (fun c19 hr=>?_) (fun c19 hr=>?_)
       .refine rn tk 8 rfl ?_;cases hr;exact ato rfl rfl rfl rfl
       refine rn tk 7 rfl ?_;cases hr;exact atc rfl rfl
      refine rn tk 2 rfl ?_;cases hr;exact ato rfl rfl rfl rfl
     .refine rn tk 8 rfl ?_;refine ie tk [.bo true] [(10,.bo true)] [] (.inr rfl) rfl rfl rfl rfl ?_;cases hr;exact jump4 _ _ rfl rfl
     refine rn tk 2 rfl ?_;refine ie tk [.bo false] [(10,.bo true)] [] (.inr rfl) rfl rfl rfl rfl ?_;cases hr;exact jump4 _ _ rfl rfl
    refine rn tk 3 rfl ?_;cases hr;exact jn _ rfl rfl rfl
   refine rn tk 5 rfl ?_;cases hr;exact jn _ rfl rfl rfl
  refine rn tk 10 rfl ?_;cases hr;exact jn _ rfl rfl rfl
 refine rn tk 1 rfl ?_;cases hr;exact kr tk (.inr rfl) rfl rfl
end Go.Proofs.YtgajlblehdboiaaGreat
namespace Go.Proofs
open Go.Shelf
def Tryz.lays137_ren:Go.Shelf.Ren:=⟨fun | 137=>128 | 217=>136 | 266=>145 | n=>n,fun | 9=>9 | 5=>5 | 3=>3 | n=>n,fun | n=>n⟩
theorem Tryz.cqz{α:Type}{a:Option α}{x y:α}(h:a=some x)(e:x=y):a=some y:=h.trans (congrArg some e)
theorem Tryz.lays137:Go.Proofs.Lays.n137 prog Tryz.lays137_ren:=⟨by kernel_rfl,cqz func128 (by kernel_rfl),cqz func136 (by kernel_rfl),cqz func145 (by kernel_rfl),underlying3,isAgg3,sizeOf3,zeroValue3,underlying5,isAgg5,sizeOf5,zeroValue5,underlying9,isAgg9,sizeOf9,zeroValue9⟩
open Go.RowKit in
theorem Tryz.strings_IndexByte(s:ByteArray)(c:Int)(w:World):
 Calls prog 128 #[.string s,.int .u8 c] w fun e w' =>e=.returned (.int .i64 (Lib.indexByte s.data.toList c.toNat.toUInt8))/\w' =w:=Any.strings_IndexByte Tryz.lays137 s c w
def Tryz.lays122_ren:Go.Shelf.Ren:=⟨fun | 122=>49 | 215=>77 | n=>n,fun | 3=>3 | 4=>4 | n=>n,fun | n=>n⟩
theorem Tryz.lays122:Go.Proofs.Lays.n122 prog Tryz.lays122_ren:=⟨by kernel_rfl,cqz func49 (by kernel_rfl),cqz func77 (by kernel_rfl),underlying3,isAgg3,sizeOf3,zeroValue3,underlying4,isAgg4,sizeOf4,zeroValue4⟩
open Go.RowKit in
theorem Tryz.cmp_Compare_int(x y:Int)(w:World):
 Calls prog 49 #[.int .i64 x,.int .i64 y] w fun e w' =>e=.returned (.int .i64 (Lib.compareInt x y))/\w' =w:=Any.cmp_Compare_int Tryz.lays122 x y w
def Tryz.lays144_ren:Go.Shelf.Ren:=⟨fun | 144=>140 | 143=>148 | 219=>144 | 217=>136 | 225=>150 | 224=>151 | 267=>152 | 266=>145 | 314=>154 | n=>n,fun | 9=>9 | 4=>4 | 3=>3 | 5=>5 | 46=>124 | 146=>176 | 51=>146 | n=>n,fun | 1=>0 | n=>n⟩
theorem Tryz.lays144:Go.Proofs.Lays.n144 prog Tryz.lays144_ren:=⟨by kernel_rfl,cqz func148 (by kernel_rfl),cqz func140 (by kernel_rfl),cqz func136 (by kernel_rfl),cqz func144 (by kernel_rfl),cqz func151 (by kernel_rfl),cqz func150 (by kernel_rfl),cqz func145 (by kernel_rfl),cqz func152 (by kernel_rfl),cqz func154 (by kernel_rfl),underlying3,isAgg3,sizeOf3,zeroValue3,underlying4,isAgg4,sizeOf4,zeroValue4,underlying5,isAgg5,sizeOf5,zeroValue5,underlying9,isAgg9,sizeOf9,zeroValue9,underlying124,isAgg124,sizeOf124,zeroValue124,underlying146,isAgg146,sizeOf146,zeroValue146,underlying176,isAgg176,sizeOf176,zeroValue176,by kernel_rfl⟩
open Go.RowKit Go.Lib in
theorem Tryz.strings_Contains(s sub:ByteArray)(m:Int)(w:World)(hs:s.size < 4294967281)(hm:w.cell? ⟨0,0,none⟩=some (.int .i64 m)):
 Calls prog 140 #[.string s,.string sub] w fun e w' =>e=.returned (.bool (Lib.contains s.data.toList sub.data.toList))/\w' =w:=Any.strings_Contains Tryz.lays144 s sub m w hs hm
def Tryz.lays145_ren:Go.Shelf.Ren:=⟨fun | 145=>126 | 220=>135 | 219=>144 | 217=>136 | 225=>150 | 224=>151 | 267=>152 | 266=>145 | 314=>154 | n=>n,fun | 9=>9 | 4=>4 | 59=>149 | 3=>3 | 5=>5 | 46=>124 | 146=>176 | 51=>146 | n=>n,fun | 1=>0 | n=>n⟩
theorem Tryz.lays145:Go.Proofs.Lays.n145 prog Tryz.lays145_ren:=⟨by kernel_rfl,cqz func126 (by kernel_rfl),cqz func136 (by kernel_rfl),cqz func144 (by kernel_rfl),cqz func135 (by kernel_rfl),cqz func151 (by kernel_rfl),cqz func150 (by kernel_rfl),cqz func145 (by kernel_rfl),cqz func152 (by kernel_rfl),cqz func154 (by kernel_rfl),underlying3,isAgg3,sizeOf3,zeroValue3,underlying4,isAgg4,sizeOf4,zeroValue4,underlying5,isAgg5,sizeOf5,zeroValue5,underlying9,isAgg9,sizeOf9,zeroValue9,underlying124,isAgg124,sizeOf124,zeroValue124,underlying146,isAgg146,sizeOf146,zeroValue146,underlying149,isAgg149,sizeOf149,zeroValue149,underlying176,isAgg176,sizeOf176,zeroValue176,by kernel_rfl⟩
open Go.RowKit Go.Lib in
theorem Tryz.strings_Cut(s sep:ByteArray)(m:Int)(w:World)(hs:s.size < 4294967281)(hm:w.cell? ⟨0,0,none⟩=some (.int .i64 m)):
 Calls prog 126 #[.string s,.string sep] w fun e w' =>e=.returned (.tuple #[.string ⟨(Lib.cut s.data.toList sep.data.toList).1.toArray⟩,.string ⟨(Lib.cut s.data.toList sep.data.toList).2.1.toArray⟩,.bool (Lib.cut s.data.toList sep.data.toList).2.2])/\∃n,w' =w.drewN n:=Any.strings_Cut Tryz.lays145 s sep m w hs hm
def Tryz.lays99_ren:Go.Shelf.Ren:=⟨fun | 99=>138 | 206=>146 | n=>n,fun | 9=>9 | 4=>4 | 3=>3 | n=>n,fun | n=>n⟩
theorem Tryz.lays99:Go.Proofs.Lays.n99 prog Tryz.lays99_ren:=⟨by kernel_rfl,cqz func138 (by kernel_rfl),cqz func146 (by kernel_rfl),underlying3,isAgg3,sizeOf3,zeroValue3,underlying4,isAgg4,sizeOf4,zeroValue4,underlying9,isAgg9,sizeOf9,zeroValue9⟩
open Go.RowKit Go.Lib in
theorem Tryz.strings_HasPrefix(s p:ByteArray)(w:World):
 Calls prog 138 #[.string s,.string p] w fun e w' =>e=.returned (.bool (Lib.hasPrefix s.data.toList p.data.toList))/\w' =w:=Any.strings_HasPrefix Tryz.lays99 s p w
def Tryz.lays100_ren:Go.Shelf.Ren:=⟨fun | 100=>139 | 207=>147 | n=>n,fun | 9=>9 | 4=>4 | 3=>3 | n=>n,fun | n=>n⟩
theorem Tryz.lays100:Go.Proofs.Lays.n100 prog Tryz.lays100_ren:=⟨by kernel_rfl,cqz func139 (by kernel_rfl),cqz func147 (by kernel_rfl),underlying3,isAgg3,sizeOf3,zeroValue3,underlying4,isAgg4,sizeOf4,zeroValue4,underlying9,isAgg9,sizeOf9,zeroValue9⟩
open Go.RowKit Go.Lib in
theorem Tryz.strings_HasSuffix(s p:ByteArray)(w:World)(hs:s.size<=9223372036854775807):
 Calls prog 139 #[.string s,.string p] w fun e w' =>e=.returned (.bool (Lib.hasSuffix s.data.toList p.data.toList))/\w' =w:=Any.strings_HasSuffix Tryz.lays100 s p w hs
def Tryz.lays226_ren:Go.Shelf.Ren:=⟨fun | 226=>156 | n=>n,fun | 3=>3 | 4=>4 | n=>n,fun | n=>n⟩
theorem Tryz.lays226:Go.Proofs.Lays.n226 prog Tryz.lays226_ren:=⟨by kernel_rfl,cqz func156 (by kernel_rfl),underlying3,isAgg3,sizeOf3,zeroValue3,underlying4,isAgg4,sizeOf4,zeroValue4⟩
open Go.RowKit Go.Lib in
theorem Tryz.strings_shouldUseASCIISet(n:Int)(w:World):
 Calls prog 156 #[.int .i64 n] w fun e w' =>e=.returned (.bool (decide (8 < n)))/\w' =w:=Any.strings_shouldUseASCIISet Tryz.lays226 n w
def Tryz.lays153_ren:Go.Shelf.Ren:=⟨fun | 153=>153 | 152=>155 | 226=>156 | 227=>157 | 228=>158 | 137=>128 | 119=>159 | 224=>151 | 225=>150 | 217=>136 | 266=>145 | n=>n,fun | 9=>9 | 3=>3 | 4=>4 | 5=>5 | 21=>21 | 117=>181 | 116=>180 | 0=>0 | 46=>124 | 124=>184 | n=>n,fun | n=>n⟩
theorem Tryz.lays153:Go.Proofs.Lays.n153 prog Tryz.lays153_ren:=⟨by kernel_rfl,cqz func159 (by kernel_rfl),cqz func128 (by kernel_rfl),cqz func155 (by kernel_rfl),cqz func153 (by kernel_rfl),cqz func136 (by kernel_rfl),cqz func151 (by kernel_rfl),cqz func150 (by kernel_rfl),cqz func156 (by kernel_rfl),cqz func157 (by kernel_rfl),cqz func158 (by kernel_rfl),cqz func145 (by kernel_rfl),underlying0,isAgg0,sizeOf0,zeroValue0,underlying3,isAgg3,sizeOf3,zeroValue3,underlying4,isAgg4,sizeOf4,zeroValue4,underlying5,isAgg5,sizeOf5,zeroValue5,underlying9,isAgg9,sizeOf9,zeroValue9,underlying21,isAgg21,sizeOf21,zeroValue21,underlying124,isAgg124,sizeOf124,zeroValue124,underlying180,isAgg180,sizeOf180,underlying181,isAgg181,sizeOf181,zeroValue181,underlying184,isAgg184,sizeOf184,zeroValue184⟩
open Go.RowKit Go.Lib in
theorem Tryz.strings_IndexAny_long(hv116:∀w,(zeroValue 180).run prog w=.ok (.agg (Array.replicate 256 (.bool false))) w)(s chars:ByteArray)(w:World)(h2:2<=chars.size)(h8:8 < s.size)(hs:s.size < 4294967281)(hcs:chars.size < 4294967281)(hascii:∀(j:Nat) b,chars.data.toList[j]? =some b->b.toNat < 128):
 Calls prog 153 #[.string s,.string chars] w fun e w' =>e=.returned (.int .i64 (Lib.indexAny s.data.toList chars.data.toList))/\w' =((w.alloc (.cells (Lib.setCells chars.data.toList) 180)).alloc (.cells (Lib.setCells chars.data.toList) 180)):=Any.strings_IndexAny_long Tryz.lays153 hv116 (by kernel_rfl) s chars w h2 h8 hs hcs hascii
open Go.RowKit Go.Lib in
theorem Tryz.strings_IndexAny(hv116:∀w,(zeroValue 180).run prog w=.ok (.agg (Array.replicate 256 (.bool false))) w)(s chars:ByteArray)(w:World)(hs:s.size < 4294967281)(hcs:chars.size < 4294967281)(has:∀(j:Nat) b,s.data.toList[j]? =some b->b.toNat < 128)(hac:∀(j:Nat) b,chars.data.toList[j]? =some b->b.toNat < 128):
 Calls prog 153 #[.string s,.string chars] w fun e w' =>e=.returned (.int .i64 (Lib.indexAny s.data.toList chars.data.toList))/\Below w.heap.size w w' :=Any.strings_IndexAny Tryz.lays153 hv116 (by kernel_rfl) s chars w hs hcs has hac
def Tryz.lays150_ren:Go.Shelf.Ren:=⟨fun | 150=>149 | 153=>153 | 152=>155 | 226=>156 | 227=>157 | 228=>158 | 137=>128 | 119=>159 | 224=>151 | 225=>150 | 217=>136 | 266=>145 | n=>n,fun | 9=>9 | 4=>4 | 3=>3 | 5=>5 | 21=>21 | 117=>181 | 116=>180 | 0=>0 | 46=>124 | 124=>184 | n=>n,fun | n=>n⟩
theorem Tryz.lays150:Go.Proofs.Lays.n150 prog Tryz.lays150_ren:=⟨by kernel_rfl,cqz func159 (by kernel_rfl),cqz func128 (by kernel_rfl),cqz func149 (by kernel_rfl),cqz func155 (by kernel_rfl),cqz func153 (by kernel_rfl),cqz func136 (by kernel_rfl),cqz func151 (by kernel_rfl),cqz func150 (by kernel_rfl),cqz func156 (by kernel_rfl),cqz func157 (by kernel_rfl),cqz func158 (by kernel_rfl),cqz func145 (by kernel_rfl),underlying0,isAgg0,sizeOf0,zeroValue0,underlying3,isAgg3,sizeOf3,zeroValue3,underlying4,isAgg4,sizeOf4,zeroValue4,underlying5,isAgg5,sizeOf5,zeroValue5,underlying9,isAgg9,sizeOf9,zeroValue9,underlying21,isAgg21,sizeOf21,zeroValue21,underlying124,isAgg124,sizeOf124,zeroValue124,underlying180,isAgg180,sizeOf180,underlying181,isAgg181,sizeOf181,zeroValue181,underlying184,isAgg184,sizeOf184,zeroValue184⟩
open Go.RowKit Go.Lib in
theorem Tryz.strings_ContainsAny(hv116:∀w,(zeroValue 180).run prog w=.ok (.agg (Array.replicate 256 (.bool false))) w)(s chars:ByteArray)(w:World)(hs:s.size < 4294967281)(hcs:chars.size < 4294967281)(has:∀(j:Nat) b,s.data.toList[j]? =some b->b.toNat < 128)(hac:∀(j:Nat) b,chars.data.toList[j]? =some b->b.toNat < 128):
 Calls prog 149 #[.string s,.string chars] w fun e w' =>e=.returned (.bool (Lib.containsAny s.data.toList chars.data.toList))/\Below w.heap.size w w' :=Any.strings_ContainsAny Tryz.lays150 hv116 (by kernel_rfl) s chars w hs hcs has hac
def Tryz.sortEntry_ren:Go.Shelf.Ren:=⟨fun | 6=>46 | 15=>76 | 14=>75 | 28=>104 | 29=>105 | 20=>96 | 21=>97 | 22=>98 | 23=>99 | 24=>100 | 25=>101 | 26=>102 | 27=>103 | 46=>121 | 47=>122 | 48=>123 | 49=>124 | 50=>125 | 57=>134 | n=>n,fun | 22=>22 | 24=>57 | 25=>87 | 3=>3 | 39=>124 | 0=>0 | 53=>146 | 55=>148 | 4=>4 | 46=>139 | 45=>138 | 50=>143 | 5=>5 | 9=>9 | 66=>161 | 70=>165 | 76=>171 | 77=>172 | n=>n,fun | n=>n⟩
theorem Tryz.sortEntry:Go.Proofs.SlLaysF0.n6 prog Tryz.sortEntry_ren:={mixed:=by kernel_rfl,f6:=⟨Tryz.f46.name,by decide,func46.trans (congrArg some (by kernel_rfl))⟩,f14:=⟨f75.name,by decide,func75.trans (congrArg some (by kernel_rfl))⟩,f15:=cqz func76 (by kernel_rfl),f20:=⟨f96.name,by decide,func96.trans (congrArg some (by kernel_rfl))⟩,f21:=⟨f97.name,by decide,func97.trans (congrArg some (by kernel_rfl))⟩,f22:=⟨f98.name,by decide,func98.trans (congrArg some (by kernel_rfl))⟩,f23:=⟨Tryz.f99.name,by decide,func99.trans (congrArg some (by kernel_rfl))⟩,f24:=⟨Tryz.f100.name,by decide,func100.trans (congrArg some (by kernel_rfl))⟩,f25:=⟨f101.name,by decide,func101.trans (congrArg some (by kernel_rfl))⟩,f26:=⟨f102.name,by decide,func102.trans (congrArg some (by kernel_rfl))⟩,f27:=⟨f103.name,by decide,func103.trans (congrArg some (by kernel_rfl))⟩,f28:=cqz func104 (by kernel_rfl),f29:=cqz func105 (by kernel_rfl),f46:=⟨f121.name,by decide,func121.trans (congrArg some (by kernel_rfl))⟩,f47:=cqz func122 (by kernel_rfl),f48:=cqz func123 (by kernel_rfl),f49:=⟨f124.name,by decide,func124.trans (congrArg some (by kernel_rfl))⟩,f50:=⟨f125.name,by decide,func125.trans (congrArg some (by kernel_rfl))⟩,f57:=⟨f134.name,by decide,func134.trans (congrArg some (by kernel_rfl))⟩,t0:=underlying0,a0:=isAgg0,z0:=sizeOf0,v0:=zeroValue0,t3:=underlying3,a3:=isAgg3,z3:=sizeOf3,v3:=zeroValue3,t4:=underlying4,a4:=isAgg4,z4:=sizeOf4,v4:=zeroValue4,t5:=underlying5,a5:=isAgg5,z5:=sizeOf5,v5:=zeroValue5,t9:=underlying9,a9:=isAgg9,z9:=sizeOf9,v9:=zeroValue9,t22:=underlying22,a22:=isAgg22,z22:=sizeOf22,v22:=zeroValue22,t25:=underlying87,a25:=isAgg87,z25:=sizeOf87,v25:=zeroValue87,t39:=underlying124,a39:=isAgg124,z39:=sizeOf124,v39:=zeroValue124,t45:=underlying138,a45:=isAgg138,z45:=sizeOf138,v45:=zeroValue138,t46:=underlying139,a46:=isAgg139,z46:=sizeOf139,v46:=zeroValue139,t50:=underlying143,a50:=isAgg143,z50:=sizeOf143,v50:=zeroValue143,t53:=underlying146,a53:=isAgg146,z53:=sizeOf146,v53:=zeroValue146,t55:=underlying148,a55:=isAgg148,z55:=sizeOf148,v55:=zeroValue148,t66:=underlying161,a66:=isAgg161,z66:=sizeOf161,v66:=zeroValue161,t70:=underlying165,a70:=isAgg165,z70:=sizeOf165,v70:=zeroValue165,t76:=underlying171,a76:=isAgg171,z76:=sizeOf171,v76:=zeroValue171,t77:=underlying172,a77:=isAgg172,z77:=sizeOf172,v77:=zeroValue172}
end Go.Proofs
namespace Go.Proofs.YtgajlblehdboiaaGreat
open Go.RowKit Go.Proofs.Tryz
theorem veb(g:G)(q:Nat):Old (fun _=>False) g ⟨g.w.drewN q,g.u,g.loc⟩:=
 ⟨rfl,rfl,rfl,⟨Nat.le_refl _,fun _ _=>Nat.le_refl _,fun _ _ _ _=>rfl,fun _ h=>h⟩,fun _ _ _=>⟨rfl,rfl⟩⟩
theorem Z1a{g:G}{s:Str}{v:Value}(h:Rel g (.s s) v):v=.string (strB s):=z8a h
theorem VGa(s t:Str)(r:Str × Str × Bool)(hr:vFa s t=some r):Run prog 126 [.s s,.s t] (.tup [.s r.1,.s r.2.1,.bo r.2.2]):=by
 unfold vFa at hr;split at hr
 case isFalse=>cases hr
 rename_i hlen;cases hr;refine ⟨⟨_,_,⟨func126,rfl,by kernel_rfl⟩⟩,fun g vs hw hg ha=>?_⟩;obtain ⟨hsz,hrel⟩:=ha;obtain ⟨l⟩:=vs
 match l,hsz with
 | [x,y],_=>
  obtain rfl:=Z1a (hrel 0 _ rfl);obtain rfl:=Z1a (hrel 1 _ rfl);obtain ⟨_,_,m,hm⟩:=hg.1 (0,0) (by simp[globs]);refine callsIn_wide.2 ((Tryz.strings_Cut (strB s) (strB t) m g.w (by rw[kca];exact hlen) hm).mono ?_);rintro e w' ⟨rfl,q,rfl⟩;refine ⟨⟨g.w.drewN q,g.u,g.loc⟩,_,rfl,rfl,veb g q,hw,rfl,.tup rfl fun i c hi=>?_⟩
  match i,hi with
  | 0,rfl=>exact .pv (.b rfl)
  | 1,rfl=>exact .pv (.b rfl)
  | 2,rfl=>exact .pv (.b rfl)
theorem q4a(s:Str)(c:UInt8)(r:Int)(hr:zXa s c=some r):Run prog 128 [.s s,.u8 c] (.i r):=by
 unfold zXa at hr;cases hr;refine ⟨⟨_,_,⟨func128,rfl,by kernel_rfl⟩⟩,fun g vs hw hg ha=>?_⟩;obtain ⟨hsz,hrel⟩:=ha;obtain ⟨l⟩:=vs
 match l,hsz with
 | [x,y],_=>
  obtain rfl:=Z1a (hrel 0 _ rfl);have e2:y=.int .u8 (c.toNat:Int):=z8a (hrel 1 _ rfl);subst e2;refine callsIn_wide.2 ((Tryz.strings_IndexByte (strB s) (c.toNat:Int) g.w).mono ?_);rintro e w' ⟨rfl,rfl⟩;refine ⟨g,_,rfl,rfl,Old.refl _ g,hw,rfl,?_⟩;simp[strB];exact .pv (.b rfl)
theorem Zta(s t:Str)(r:Bool)(hr:kAa s t=some r):Run prog 140 [.s s,.s t] (.bo r):=by
 unfold kAa at hr;split at hr
 case isFalse=>cases hr
 rename_i hlen;cases hr;refine ⟨⟨_,_,⟨func140,rfl,by kernel_rfl⟩⟩,fun g vs hw hg ha=>?_⟩;obtain ⟨hsz,hrel⟩:=ha;obtain ⟨l⟩:=vs
 match l,hsz with
 | [x,y],_=>
  obtain rfl:=Z1a (hrel 0 _ rfl);obtain rfl:=Z1a (hrel 1 _ rfl);obtain ⟨_,_,m,hm⟩:=hg.1 (0,0) (by simp[globs]);refine callsIn_wide.2 ((Tryz.strings_Contains (strB s) (strB t) m g.w (by rw[kca];exact hlen) hm).mono ?_);rintro e w' ⟨rfl,rfl⟩;exact ⟨g,_,rfl,rfl,Old.refl _ g,hw,rfl,.pv (.b rfl)⟩
theorem vQa(a0:Str)(a1:Str)(r:Bool)(hr:z6a a0 a1=some r):Run prog 146 [.s a0,.s a1] (.bo r):=by
 unfold z6a at hr;refine rf (fn:=f146) ⟨func146,rfl,by kernel_rfl⟩ rfl (fun _=>rfl) fun g0 hg=>?_
 refine rn tk 5 rfl<|jb hr (fun j1=>[(4,.bo j1)]) (fun j1=>[]) (fun j1 hr=>?_) (fun j1 hr=>?_)
 .refine rn tk 7 rfl<|bs 10 hr rfl (fun c2 hr=>?_) (fun c2 hr=>?_)
  .refine rn tk 3 rfl ?_;obtain ⟨v3,h4,hr⟩:=zaa hr;refine ug rfl rfl rfl<|wscH tk h4 rfl rfl rfl rfl<|rn tk 5 rfl ?_;cases hr;exact jn _ rfl rfl rfl
  refine rn tk 9 rfl ?_;cases hr;exact jn _ rfl rfl rfl
 refine rn tk 1 rfl ?_;cases hr;exact kr tk (.inr rfl) rfl rfl
theorem j6a(a0:Str)(a1:Str)(r:Bool)(hr:kta a0 a1=some r):Run prog 138 [.s a0,.s a1] (.bo r):=by
 unfold kta at hr;refine rf (fn:=f138) ⟨func138,rfl,by kernel_rfl⟩ rfl (fun _=>rfl) fun g0 hg=>?_
 refine rn tk 9 rfl ?_;obtain ⟨v1,h2,hr⟩:=zaa hr;refine cl (vQa _ _ _ h2) rfl rfl<|rn tk 4 rfl ?_;cases hr;exact kr tk (.inr rfl) rfl rfl
theorem vRa(a0:Str)(a1:Str)(r:Bool)(hr:z7a a0 a1=some r):Run prog 147 [.s a0,.s a1] (.bo r):=by
 unfold z7a at hr;refine rf (fn:=f147) ⟨func147,rfl,by kernel_rfl⟩ rfl (fun _=>rfl) fun g0 hg=>?_
 refine rn tk 5 rfl<|jb hr (fun j1=>[(4,.bo j1)]) (fun j1=>[]) (fun j1 hr=>?_) (fun j1 hr=>?_)
 .refine rn tk 7 rfl<|bs 10 hr rfl (fun c2 hr=>?_) (fun c2 hr=>?_)
  .refine rn tk 6 rfl ?_;obtain ⟨v3,h4,hr⟩:=zaa hr;refine ug rfl rfl rfl<|wscL tk h4 rfl rfl rfl rfl<|rn tk 5 rfl ?_;cases hr;exact jn _ rfl rfl rfl
  refine rn tk 12 rfl ?_;cases hr;exact jn _ rfl rfl rfl
 refine rn tk 1 rfl ?_;cases hr;exact kr tk (.inr rfl) rfl rfl
theorem j7a(a0:Str)(a1:Str)(r:Bool)(hr:kua a0 a1=some r):Run prog 139 [.s a0,.s a1] (.bo r):=by
 unfold kua at hr;refine rf (fn:=f139) ⟨func139,rfl,by kernel_rfl⟩ rfl (fun _=>rfl) fun g0 hg=>?_
 refine rn tk 9 rfl ?_;obtain ⟨v1,h2,hr⟩:=zaa hr;refine cl (vRa _ _ _ h2) rfl rfl<|rn tk 4 rfl ?_;cases hr;exact kr tk (.inr rfl) rfl rfl
theorem Z2a(a0:Str)(r:Bool)(hr:qVa a0=some r):Run prog 129 [.s a0] (.bo r):=by
 unfold qVa at hr;refine rf (fn:=f129) ⟨func129,rfl,by kernel_rfl⟩ rfl (fun _=>rfl) fun g0 hg=>?_
 refine rn tk 10 rfl<|jb hr (fun j1=>[(2,.bo j1)]) (fun j1=>[]) (fun j1 hr=>?_) (fun j1 hr=>?_)
 .refine rn tk 4 rfl<|bs 6 hr rfl (fun c2 hr=>?_) (fun c2 hr=>?_)
  .refine rn tk 5 rfl<|bs 11 hr rfl (fun c3 hr=>?_) (fun c3 hr=>?_)
   .refine rn tk 2 rfl<|ug rfl rfl rfl<|ct hr (fun j4=>[(0,.s a0),(11,.bo true),(14,.bo j4)]) (fun j4=>[]) (fun j4 hr jump4=>?_) (fun j4 hr=>?_)
    .refine il (fn:=f109) (args:=[.s a0,.fn (.func 137) [] []]) 400000 499999 [(0,.s a0),(11,.bo true)] rfl ⟨func109,rfl,by kernel_rfl⟩ rfl rfl rfl fun T4 ds4=>?_
     refine rn tk 14 rfl<|al2 hr (fun s5=>[(0,.s a0),(1,.fn (.func 137) [] []),(7,.i ((a0.length:Int))),(8,.i s5)]) (fun s5=>[(499999,.sus g0.w.heap.size ds4),(400000,.hold (.s a0) (T4.getD 0 undef)),(400011,.hold (.bo true) (T4.getD 11 undef))]) (.exit 0) (fun b6=>[]) (fun b6=>[(499999,.sus g0.w.heap.size ds4),(400000,.hold (.s a0) (T4.getD 0 undef)),(400011,.hold (.bo true) (T4.getD 11 undef))]) .ret (fun b7=>[(4,.bo false)]) (fun b7=>[(499999,.sus g0.w.heap.size ds4),(400000,.hold (.s a0) (T4.getD 0 undef)),(400011,.hold (.bo true) (T4.getD 11 undef))]) rfl rfl (fun s5 x9 hr=>?_) (fun b6 hr=>?_) (fun b7 hr=>?_)
     .unfold kWa at hr;refine rn tk 6 rfl<|ac 9 hr rfl (fun c10 hr=>?_) (fun c10 hr=>?_)
      .refine rn tk 15 rfl ?_;obtain ⟨v11,h12,hr⟩:=zaa hr;refine ws tk h12 rfl rfl rfl rfl<|il (fn:=Tryz.f137) (args:=[.u8 v11]) 600000 699999 [(0,.s a0),(1,.fn (.func 137) [] []),(7,.i ((a0.length:Int))),(8,.i s5)] rfl ⟨func137,rfl,by kernel_rfl⟩ rfl rfl rfl fun T6 ds6=>?_
       refine rn tk 5 rfl<|jb hr (fun j13=>[(2,.bo j13)]) (fun j13=>[(699999,.sus g0.w.heap.size ds6),(600000,.hold (.s a0) (T6.getD 0 undef)),(600001,.hold (.fn (.func 137) [] []) (T6.getD 1 undef)),(600007,.hold (.i ((a0.length:Int))) (T6.getD 7 undef)),(600008,.hold (.i s5) (T6.getD 8 undef)),(499999,.sus g0.w.heap.size ds4),(400000,.hold (.s a0) (T4.getD 0 undef)),(400011,.hold (.bo true) (T4.getD 11 undef))]) (fun j13 hr=>?_) (fun j13 hr=>?_)
       .refine rn tk 4 rfl<|bs 5 hr rfl (fun c14 hr=>?_) (fun c14 hr=>?_)
        .refine rn tk 4 rfl<|bs 9 hr rfl (fun c15 hr=>?_) (fun c15 hr=>?_)
         .refine rn tk 17 rfl ?_;cases hr;exact jn _ rfl rfl rfl
         refine rn tk 3 rfl<|bs 12 hr rfl (fun c16 hr=>?_) (fun c16 hr=>?_)
         .refine rn tk 5 rfl<|bs 17 hr rfl (fun c17 hr=>?_) (fun c17 hr=>?_)
          .refine rn tk 9 rfl ?_;cases hr;exact jn _ rfl rfl rfl
          refine rn tk 4 rfl<|bs 21 hr rfl (fun c18 hr=>?_) (fun c18 hr=>?_)
          .refine rn tk 5 rfl ?_;cases hr;exact jn _ rfl rfl rfl
          refine rn tk 5 rfl ?_;cases hr;exact jn _ rfl rfl rfl
         refine rn tk 9 rfl<|bs 21 hr rfl (fun c19 hr=>?_) (fun c19 hr=>?_)
         .refine rn tk 5 rfl ?_;cases hr;exact jn _ rfl rfl rfl
         refine rn tk 5 rfl ?_;cases hr;exact jn _ rfl rfl rfl
        refine rn tk 7 rfl<|bs 12 hr rfl (fun c20 hr=>?_) (fun c20 hr=>?_)
        .refine rn tk 5 rfl<|bs 17 hr rfl (fun c21 hr=>?_) (fun c21 hr=>?_)
         .refine rn tk 9 rfl ?_;cases hr;exact jn _ rfl rfl rfl
         refine rn tk 4 rfl<|bs 21 hr rfl (fun c22 hr=>?_) (fun c22 hr=>?_)
         .refine rn tk 5 rfl ?_;cases hr;exact jn _ rfl rfl rfl
         refine rn tk 5 rfl ?_;cases hr;exact jn _ rfl rfl rfl
        refine rn tk 9 rfl<|bs 21 hr rfl (fun c23 hr=>?_) (fun c23 hr=>?_)
        .refine rn tk 5 rfl ?_;cases hr;exact jn _ rfl rfl rfl
        refine rn tk 5 rfl ?_;cases hr;exact jn _ rfl rfl rfl
       refine rn tk 1 rfl ?_;refine ie tk [.bo j13] [(0,.s a0),(1,.fn (.func 137) [] []),(7,.i ((a0.length:Int))),(8,.i s5)] [(499999,.sus g0.w.heap.size ds4),(400000,.hold (.s a0) (T4.getD 0 undef)),(400011,.hold (.bo true) (T4.getD 11 undef))] (.inr rfl) rfl rfl rfl rfl (hO ?_);refine rn tk 3 rfl<|ac 16 hr rfl (fun c24 hr=>?_) (fun c24 hr=>?_)
       .refine rn tk 8 rfl ?_;cases hr;exact ato rfl rfl rfl rfl
       refine rn tk 7 rfl ?_;cases hr;exact atc rfl rfl
      refine rn tk 2 rfl ?_;cases hr;exact ato rfl rfl rfl rfl
     .refine rn tk 8 rfl ?_;refine ie tk [.bo true] [(0,.s a0),(11,.bo true)] [] (.inr rfl) rfl rfl rfl rfl ?_;cases hr;exact jump4 _ _ rfl rfl
     refine rn tk 2 rfl ?_;refine ie tk [.bo false] [(0,.s a0),(11,.bo true)] [] (.inr rfl) rfl rfl rfl rfl ?_;cases hr;exact jump4 _ _ rfl rfl
    refine rn tk 2 rfl<|bs 16 hr rfl (fun c25 hr=>?_) (fun c25 hr=>?_)
    .refine rn tk 1 rfl ?_;obtain ⟨v26,h27,hr⟩:=zaa hr;refine ug rfl rfl rfl<|cl (j6a _ _ _ h27) rfl rfl<|rn tk 3 rfl<|bs 21 hr rfl (fun c28 hr=>?_) (fun c28 hr=>?_)
     .refine rn tk 1 rfl ?_;obtain ⟨v29,h30,hr⟩:=zaa hr;refine ug rfl rfl rfl<|cl (j7a _ _ _ h30) rfl rfl<|rn tk 3 rfl<|bs 26 hr rfl (fun c31 hr=>?_) (fun c31 hr=>?_)
      .refine rn tk 1 rfl ?_;obtain ⟨v32,h33,hr⟩:=zaa hr;refine ug rfl rfl rfl<|cl (Zta _ _ _ h33) rfl rfl<|rn tk 4 rfl ?_;cases hr;exact jn _ rfl rfl rfl
      refine rn tk 6 rfl ?_;cases hr;exact jn _ rfl rfl rfl
     refine rn tk 11 rfl ?_;cases hr;exact jn _ rfl rfl rfl
    refine rn tk 16 rfl ?_;cases hr;exact jn _ rfl rfl rfl
   refine rn tk 21 rfl ?_;cases hr;exact jn _ rfl rfl rfl
  refine rn tk 26 rfl ?_;cases hr;exact jn _ rfl rfl rfl
 refine rn tk 1 rfl ?_;cases hr;exact kr tk (.inr rfl) rfl rfl
theorem yCa(a0:Str)(r:Str × Str × Bool)(hr:qJa a0=some r):Run prog 106 [.s a0] (.tup [.s r.1,.s r.2.1,.bo r.2.2]):=by
 unfold qJa at hr;refine rf (fn:=f106) ⟨func106,rfl,by kernel_rfl⟩ rfl (fun _=>rfl) fun g0 hg=>?_
 refine rn tk 10 rfl ?_;obtain ⟨v1,h2,hr⟩:=zaa hr;refine cl (VGa _ _ _ h2) rfl rfl<|rn tk 14 rfl<|jb hr (fun j3=>[(2,.s v1.1),(3,.s v1.2.1),(4,.bo j3)]) (fun j3=>[]) (fun j3 hr=>?_) (fun j3 hr=>?_)
 .refine rn tk 5 rfl<|bs 15 hr rfl (fun c4 hr=>?_) (fun c4 hr=>?_)
  .refine rn tk 4 rfl<|bs 19 hr rfl (fun c5 hr=>?_) (fun c5 hr=>?_)
   .refine rn tk 5 rfl<|bs 24 hr rfl (fun c6 hr=>?_) (fun c6 hr=>?_)
    .refine rn tk 2 rfl<|ug rfl rfl rfl<|ct hr (fun j7=>[(3,.s v1.2.1),(12,.s v1.1),(13,.s v1.2.1),(24,.bo true),(27,.bo j7)]) (fun j7=>[]) (fun j7 hr jump4=>?_) (fun j7 hr=>?_)
     .refine il (fn:=f109) (args:=[.s v1.1,.fn (.func 127) [] []]) 400000 499999 [(3,.s v1.2.1),(12,.s v1.1),(13,.s v1.2.1),(24,.bo true)] rfl ⟨func109,rfl,by kernel_rfl⟩ rfl rfl rfl fun T4 ds4=>?_
      refine rn tk 14 rfl<|al2 hr (fun s8=>[(0,.s v1.1),(1,.fn (.func 127) [] []),(7,.i ((v1.1.length:Int))),(8,.i s8)]) (fun s8=>[(499999,.sus g0.w.heap.size ds4),(400003,.hold (.s v1.2.1) (T4.getD 3 undef)),(400012,.hold (.s v1.1) (T4.getD 12 undef)),(400013,.hold (.s v1.2.1) (T4.getD 13 undef)),(400024,.hold (.bo true) (T4.getD 24 undef))]) (.exit 0) (fun b9=>[]) (fun b9=>[(499999,.sus g0.w.heap.size ds4),(400003,.hold (.s v1.2.1) (T4.getD 3 undef)),(400012,.hold (.s v1.1) (T4.getD 12 undef)),(400013,.hold (.s v1.2.1) (T4.getD 13 undef)),(400024,.hold (.bo true) (T4.getD 24 undef))]) .ret (fun b10=>[(4,.bo false)]) (fun b10=>[(499999,.sus g0.w.heap.size ds4),(400003,.hold (.s v1.2.1) (T4.getD 3 undef)),(400012,.hold (.s v1.1) (T4.getD 12 undef)),(400013,.hold (.s v1.2.1) (T4.getD 13 undef)),(400024,.hold (.bo true) (T4.getD 24 undef))]) rfl rfl (fun s8 x12 hr=>?_) (fun b9 hr=>?_) (fun b10 hr=>?_)
      .unfold qja at hr;refine rn tk 6 rfl<|ac 9 hr rfl (fun c13 hr=>?_) (fun c13 hr=>?_)
       .refine rn tk 15 rfl ?_;obtain ⟨v14,h15,hr⟩:=zaa hr;refine ws tk h15 rfl rfl rfl rfl<|il (fn:=f127) (args:=[.u8 v14]) 600000 699999 [(0,.s v1.1),(1,.fn (.func 127) [] []),(7,.i ((v1.1.length:Int))),(8,.i s8)] rfl ⟨func127,rfl,by kernel_rfl⟩ rfl rfl rfl fun T6 ds6=>?_
        refine rn tk 5 rfl<|jb hr (fun j16=>[(2,.bo j16)]) (fun j16=>[(699999,.sus g0.w.heap.size ds6),(600000,.hold (.s v1.1) (T6.getD 0 undef)),(600001,.hold (.fn (.func 127) [] []) (T6.getD 1 undef)),(600007,.hold (.i ((v1.1.length:Int))) (T6.getD 7 undef)),(600008,.hold (.i s8) (T6.getD 8 undef)),(499999,.sus g0.w.heap.size ds4),(400003,.hold (.s v1.2.1) (T4.getD 3 undef)),(400012,.hold (.s v1.1) (T4.getD 12 undef)),(400013,.hold (.s v1.2.1) (T4.getD 13 undef)),(400024,.hold (.bo true) (T4.getD 24 undef))]) (fun j16 hr=>?_) (fun j16 hr=>?_)
        .refine rn tk 2 rfl ?_;obtain ⟨v17,h18,hr⟩:=zaa hr;refine cl (jBa _ _ h18) rfl rfl<|rn tk 1 rfl<|bs 5 hr rfl (fun c19 hr=>?_) (fun c19 hr=>?_)
         .refine rn tk 6 rfl ?_;cases hr;exact jn _ rfl rfl rfl
         refine rn tk 1 rfl ?_;obtain ⟨v20,h21,hr⟩:=zaa hr;refine ug rfl rfl rfl<|cl (q4a _ _ _ h21) rfl rfl<|rn tk 4 rfl ?_;cases hr;exact jn _ rfl rfl rfl
        refine rn tk 1 rfl ?_;refine ie tk [.bo j16] [(0,.s v1.1),(1,.fn (.func 127) [] []),(7,.i ((v1.1.length:Int))),(8,.i s8)] [(499999,.sus g0.w.heap.size ds4),(400003,.hold (.s v1.2.1) (T4.getD 3 undef)),(400012,.hold (.s v1.1) (T4.getD 12 undef)),(400013,.hold (.s v1.2.1) (T4.getD 13 undef)),(400024,.hold (.bo true) (T4.getD 24 undef))] (.inr rfl) rfl rfl rfl rfl (hO ?_);refine rn tk 3 rfl<|ac 16 hr rfl (fun c22 hr=>?_) (fun c22 hr=>?_)
        .refine rn tk 8 rfl ?_;cases hr;exact ato rfl rfl rfl rfl
        refine rn tk 7 rfl ?_;cases hr;exact atc rfl rfl
       refine rn tk 2 rfl ?_;cases hr;exact ato rfl rfl rfl rfl
      .refine rn tk 8 rfl ?_;refine ie tk [.bo true] [(3,.s v1.2.1),(12,.s v1.1),(13,.s v1.2.1),(24,.bo true)] [] (.inr rfl) rfl rfl rfl rfl ?_;cases hr;exact jump4 _ _ rfl rfl
      refine rn tk 2 rfl ?_;refine ie tk [.bo false] [(3,.s v1.2.1),(12,.s v1.1),(13,.s v1.2.1),(24,.bo true)] [] (.inr rfl) rfl rfl rfl rfl ?_;cases hr;exact jump4 _ _ rfl rfl
     refine rn tk 2 rfl<|bs 29 hr rfl (fun c23 hr=>?_) (fun c23 hr=>?_)
     .refine rn tk 1 rfl ?_;obtain ⟨v24,h25,hr⟩:=zaa hr;refine ug rfl rfl rfl<|cl (Z2a _ _ h25) rfl rfl<|rn tk 5 rfl ?_;cases hr;exact jn _ rfl rfl rfl
     refine rn tk 7 rfl ?_;cases hr;exact jn _ rfl rfl rfl
    refine rn tk 12 rfl ?_;cases hr;exact jn _ rfl rfl rfl
   refine rn tk 17 rfl ?_;cases hr;exact jn _ rfl rfl rfl
  refine rn tk 21 rfl ?_;cases hr;exact jn _ rfl rfl rfl
 refine rn tk 1 rfl ?_;cases hr;exact kr tk (.inr rfl) rfl rfl
theorem wTa(a0:Str)(r:Bool)(hr:kRa a0=some r):Run prog 85 [.s a0] (.bo r):=by
 unfold kRa at hr;refine rf (fn:=f85) ⟨func85,rfl,by kernel_rfl⟩ rfl (fun _=>rfl) fun g0 hg=>?_
 refine rn tk 8 rfl ?_;obtain ⟨v1,h2,hr⟩:=zaa hr;refine cl (yCa _ _ h2) rfl rfl<|rn tk 16 rfl ?_;cases hr;exact kr tk (.inr rfl) rfl rfl
theorem Z3a(a0:Int)(r:Bool)(hr:qXa a0=some r):Run prog 112 [.i a0] (.bo r):=by
 unfold qXa at hr;refine rf (fn:=f112) ⟨func112,rfl,by kernel_rfl⟩ rfl (fun _=>rfl) fun g0 hg=>?_
 refine rn tk 5 rfl<|jb hr (fun j1=>[(2,.bo j1)]) (fun j1=>[]) (fun j1 hr=>?_) (fun j1 hr=>?_)
 .refine rn tk 4 rfl<|bs 5 hr rfl (fun c2 hr=>?_) (fun c2 hr=>?_)
  .refine rn tk 5 rfl ?_;cases hr;exact jn _ rfl rfl rfl
  refine rn tk 5 rfl ?_;cases hr;exact jn _ rfl rfl rfl
 refine rn tk 1 rfl ?_;cases hr;exact kr tk (.inr rfl) rfl rfl
end Go.Proofs.YtgajlblehdboiaaGreat
