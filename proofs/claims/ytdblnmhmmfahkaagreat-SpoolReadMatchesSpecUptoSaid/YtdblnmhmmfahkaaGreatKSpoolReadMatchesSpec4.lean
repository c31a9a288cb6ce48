/- Part 4 of the proof of the law SpoolReadMatchesSpec: what it needs. -/
import Derived.Test.YtdblnmhmmfahkaaGreatKSpoolReadMatchesSpec3
import Derived.Laws.RangeAny
import Derived.Lib.ItoaMem
set_option linter.unusedVariables false
set_option linter.unusedSimpArgs false
set_option maxRecDepth 100000
set_option maxHeartbeats 40000000
namespace Go.Proofs.YtdblnmhmmfahkaaGreat
open Go.RowKit
def le:Nat->Nat->List UInt8
 | 0,_=>[]
 | k+1,u=>UInt8.ofNat (u % 256)::le k (u / 256)
def valB:List UInt8->Nat
 | []=>0
 | c::l=>c.toNat+256 * valB l
theorem le_succ(k u:Nat):le (k+1) u=UInt8.ofNat (u % 256)::le k (u / 256):=rfl
theorem le_len:∀(k u:Nat),(le k u).length=k
 | 0,_=>rfl
 | k+1,u=>by simp[le,le_len k]
theorem wTb:∀(k u:Nat),valB (le k u)=u % 256 ^ k
 | 0,u=>by simp[le,valB,Nat.mod_one]
 | k+1,u=>by
  unfold le valB;rw[wTb k,UInt8.toNat_ofNat',show 256 ^ (k+1)=256 * 256 ^ k by rw[Nat.pow_succ,Nat.mul_comm],Nat.mod_mul];omega
theorem J1a:∀l:List UInt8,valB l < 256 ^ l.length
 | []=>by simp[valB]
 | c::l=>by
  have:=J1a l;have:=UInt8.toNat_lt c;unfold valB;rw[List.length_cons,Nat.pow_succ];omega
theorem wUb:∀l:List UInt8,le l.length (valB l)=l
 | []=>rfl
 | c::l=>by
  have hc:=UInt8.toNat_lt c;unfold valB;rw[List.length_cons];unfold le;rw[show (c.toNat+256 * valB l) % 256=c.toNat by omega,show (c.toNat+256 * valB l) / 256=valB l by omega,wUb l]
  congr 1
  exact UInt8.ofNat_toNat
def num8(n:Int):List UInt8:=le 8 (wu64 n).toNat
def wVb(l:List UInt8):Int:=w64 (valB l:Int)
theorem kna(n:Int):(num8 n).length=8:=le_len _ _
theorem wWb(n:Int):w64 n=if 9223372036854775808<=n % 18446744073709551616 then n % 18446744073709551616 - 18446744073709551616 else n % 18446744073709551616:=by
 unfold w64;simp[IntKind.wrap,IntKind.bits,IntKind.signed]
theorem w64_u(n:Int)(h:ok64 n):w64 (wu64 n)=n:=by
 unfold ok64 at h;unfold wu64;by_cases hn:0<=n
 .rw[show n % 18446744073709551616=n by omega];exact q7a (by omega) (by omega)
 rw[show n % 18446744073709551616=n+18446744073709551616 by omega];show w64 (n+18446744073709551616)=n;rw[wWb];split <;> omega
theorem Vya(n:Int)(h:ok64 n):wVb (num8 n)=n:=by
 unfold wVb num8;rw[wTb];have h0:0<=wu64 n/\wu64 n < 18446744073709551616:=by unfold wu64;omega
 rw[Nat.mod_eq_of_lt (show (wu64 n).toNat < 256 ^ 8 by show _ < 18446744073709551616;omega),Int.toNat_of_nonneg h0.1];exact w64_u n h
theorem wu64_w(u:Nat)(h:u < 18446744073709551616):(wu64 (w64 (u:Int))).toNat=u:=by
 unfold wu64;rw[wWb];split <;> omega
theorem vzb(l:List UInt8)(h:l.length=8):num8 (wVb l)=l:=by
 have h1:=J1a l;rw[h]at h1;unfold num8 wVb;rw[wu64_w _ h1];have:=wUb l;rw[h]at this;exact this
theorem qEb(u:Int):ok64 (w64 u):=by
 unfold ok64;rw[wWb];split <;> omega
theorem byte_shr(n:Int)(i:Nat)(hi:i < 8):toU8 (uShr (wu64 n) (w64 (8 * (i:Int))))=UInt8.ofNat ((wu64 n).toNat / 256 ^ i % 256):=by
 have h0:0<=wu64 n:=by unfold wu64;omega
 obtain ⟨u,hu⟩:∃u:Nat,wu64 n=(u:Int):=⟨(wu64 n).toNat,by omega⟩;rw[hu];unfold toU8 uShr;rw[q7a (by omega) (by omega),show (8 * (i:Int)).toNat=8 * i by omega,Nat.min_eq_left (by omega)];have h2:((2:Int) ^ (8 * i))=((256 ^ i:Nat):Int):=by
  rw[Int.natCast_pow];rw[Int.pow_mul,show ((2:Int) ^ 8)=((256:Nat):Int) by decide]
 rw[h2,<-Int.natCast_ediv];rfl
theorem z7b(n:Int){body:Int × zma->Option (Step (Int × zma) zma)}(hb:body=kaa n):∀(k i:Nat) (o:List UInt8),i+k=8->o.length+k<=140737488355328->
 iter body ((i:Int),⟨o⟩)=some ⟨o++le k ((wu64 n).toNat / 256 ^ i)⟩:=by
 intro k;induction k with
 | zero=>
  intro i o hi hl;have:i=8:=by omega
  subst this;subst hb;refine zEa ?_;unfold kaa le;simp
 | succ k ih=>
  intro i o hi hl;have hc:body ((i:Int),⟨o⟩)=some (.cont (((i+1:Nat):Int),⟨o++ [UInt8.ofNat ((wu64 n).toNat / 256 ^ i % 256)]⟩)):=by
   subst hb;unfold kaa;dsimp only;rw[decide_eq_true (show (i:Int) < 8 by omega),byte_shr n i (by omega)];have:nng (w64 (8 * (i:Int)))=some true:=by
    unfold nng;rw[q7a (by omega) (by omega),if_pos (by omega)]
   rw[this];simp only[cond_true,Option.bind_some,sc i (by omega)];rw[qva (by simp;omega)];rfl
  rw[zTa hc,ih (i+1) _ (by omega) (by simp;omega)];rw[le_succ,Nat.div_div_eq_div_mul,Nat.pow_succ,List.append_assoc];rfl
theorem zVa(w:zma)(n:Int)(h:w.out.length<=70368744177664):zJa w n=some ⟨w.out++num8 n⟩:=by
 unfold zJa;have:=z7b n rfl 8 0 w.out rfl (by omega);rw[show iter (kaa n) (0,w)=_ from this];simp[num8]
def encT(s:Str):List UInt8:=num8 (s.length:Int)++s
theorem qWa(s:Str):(encT s).length=8+s.length:=by unfold encT;rw[List.length_append,kna]
theorem kla(w:zma)(s:Str)(h:w.out.length<=35184372088832)(hs:s.length<=35184372088832):z4a w s=some ⟨w.out++encT s⟩:=by
 unfold z4a;rw[zVa w _ (by omega)];simp only[Option.bind_some];rw[qva (by rw[List.length_append,kna];omega)];simp[encT]
def WWa(l:List Int):List UInt8:=num8 (l.length:Int)++l.flatMap num8
theorem Z9a:∀l:List Int,(l.flatMap num8).length=8 * l.length
 | []=>rfl
 | n::l=>by rw[List.flatMap_cons,List.length_append,kna,Z9a l,List.length_cons];omega
def sumB(l:List UInt8):Int:=l.foldl (fun h c=>wu64 (uXor h (c.toNat:Int) * 1099511628211)) 14695981039346656037
theorem VTa(l:List UInt8)(h:l.length<=140737488355328):Z6a l=some (sumB l):=by
 unfold Z6a;rw[(Z8a l (fun i s=>(s,i)) (fun h c=>wu64 (uXor h (c.toNat:Int) * 1099511628211)) id (fun _ _=>True) (body:=yta l) (fun s _=>by unfold yta;dsimp only;rw[zQa];rfl) (fun i x s hx _=>⟨by
  have hi:=zYa hx;unfold yta;dsimp only;rw[kfa hx,zwa hx];simp only[cond_true,Option.bind_some,sc i (by omega)],trivial⟩) 14695981039346656037 trivial).1]
 rfl
theorem YCa(l:List UInt8)(h:l.length<=140737488355328):Zua l=some (sumB l):=VTa l h
def WXa(c:UInt8):Bool:=(decide (97<=c) && decide (c<=122)) || (decide (65<=c) && decide (c<=90)) || (decide (48<=c) && decide (c<=57))
def yDa(c:UInt8):Bool:=(decide (97<=c) && decide (c<=122)) || (decide (48<=c) && decide (c<=57)) || c==45 || c==46
def V4a(c:UInt8):Bool:=WXa c || c==45 || c==95 || c==46 || c==43 || c==61
def ZCa:Bool->Str->Bool
 | p,[]=> !p
 | p,c::r=>if c=46 then !p && ZCa true r else ZCa false r
def domP(s:Str):Bool:=decide (s.length<=60) && s.all yDa && ZCa true s
def atP(s:Str):Nat:=s.findIdx (· ==64)
def Vza(s:Str):Bool:=decide (atP s < s.length) && decide (1<=atP s) && decide (atP s<=60) && (s.take (atP s)).all V4a && domP (s.drop (atP s+1))
theorem ZDa(k:Nat)(c:UInt8)(hk:OfNat.ofNat k < 256):decide ((no_index (OfNat.ofNat k:Int))<=(c.toNat:Int))=decide ((OfNat.ofNat k:UInt8)<=c):=by
 have e:(OfNat.ofNat k:Int)=((OfNat.ofNat k:Nat):Int):=rfl;have h2:(OfNat.ofNat k:UInt8).toNat=(OfNat.ofNat k:Nat):=by
  show (UInt8.ofNat k).toNat=k;rw[UInt8.toNat_ofNat'];exact Nat.mod_eq_of_lt hk
 rw[Bool.eq_iff_iff,decide_eq_true_eq,decide_eq_true_eq,UInt8.le_iff_toNat_le,h2,e];omega
theorem ZEa(k:Nat)(c:UInt8)(hk:OfNat.ofNat k < 256):decide ((c.toNat:Int)<=(no_index (OfNat.ofNat k:Int)))=decide (c<=(OfNat.ofNat k:UInt8)):=by
 have e:(OfNat.ofNat k:Int)=((OfNat.ofNat k:Nat):Int):=rfl;have h2:(OfNat.ofNat k:UInt8).toNat=(OfNat.ofNat k:Nat):=by
  show (UInt8.ofNat k).toNat=k;rw[UInt8.toNat_ofNat'];exact Nat.mod_eq_of_lt hk
 rw[Bool.eq_iff_iff,decide_eq_true_eq,decide_eq_true_eq,UInt8.le_iff_toNat_le,h2,e];omega
theorem vSa(a b c:Int):R_In a b c=some (decide (b<=a) && decide (a<=c)):=by
 unfold R_In;cases decide (b<=a) <;> rfl
theorem jxa(c:UInt8):qYa c=some (WXa c):=by
 unfold qYa WXa;simp only[vSa,Option.bind_some,ZDa 97 c (by decide),ZEa 122 c (by decide),ZDa 65 c (by decide),ZEa 90 c (by decide),ZDa 48 c (by decide),ZEa 57 c (by decide)];generalize (decide ((97:UInt8)<=c) && decide (c<=122))=x;generalize (decide ((65:UInt8)<=c) && decide (c<=90))=y;cases x <;> cases y <;> simp
theorem Kaa(c:UInt8):wsa c=some (WXa c):=by
 unfold wsa WXa;simp only[ZDa 97 c (by decide),ZEa 122 c (by decide),ZDa 65 c (by decide),ZEa 90 c (by decide),ZDa 48 c (by decide),ZEa 57 c (by decide)];cases decide ((97:UInt8)<=c) <;> cases decide (c<=122) <;> cases decide ((65:UInt8)<=c) <;> cases decide (c<=90) <;> cases decide ((48:UInt8)<=c) <;> cases decide (c<=57) <;> rfl
def yza(s:Str)(i:Nat):Bool:=if i=0 then true else s[i - 1]? ==some 46
def w8a:Bool->Str->Bool
 | _,[]=>true
 | p,c::r=>if c=46 then !p && !r.isEmpty && w8a true r else yDa c && w8a false r
theorem z8b(p:Bool)(c:UInt8)(r:Str):w8a p (c::r)=if c=46 then !p && !r.isEmpty && w8a true r else yDa c && w8a false r:=rfl
theorem vAb(s:Str)(p:Bool)(h:s≠ []∨p=false):w8a p s=(s.all yDa && ZCa p s):=by
 induction s generalizing p with
 | nil=>simp[w8a,ZCa];rcases h with h | h <;> simp_all
 | cons c r ih=>
  unfold w8a ZCa;by_cases hc:c=46
  .subst hc;simp only[if_true,List.all_cons,show yDa 46=true by decide,Bool.true_and];cases r with
   | nil=>simp[ZCa]
   | cons d r=>
    rw[ih true (.inl (by simp))];cases p <;> simp
  rw[if_neg hc,if_neg hc];rw[ih false (.inr rfl),List.all_cons,Bool.and_assoc]
theorem WYa(s:Str)(hs:s.length<=9223372036854775806):iter (q9a s) 0=some (if w8a true s then .inl () else .inr false):=by
 have:=QPa (body:=q9a s) s (fun i (_:Unit)=>(i:Int)) (fun i r _=>if w8a (yza s i) r then .inl () else .inr false) (fun _=>by
  unfold q9a;rw[zQa];simp[w8a]) (fun p c r _ h=>?_) (s0:=0) () rfl
 .simpa[yza]using this
 have hc:s[p.length]? =some c:=by simp[h]
 have hidx:=zwa hc;have hlen:s.length=p.length+r.length+1:=by rw[h];simp;omega
 have e1:w64 ((s.length:Int) - 1)=((s.length - 1:Nat):Int):=by rw[q7a (by omega) (by omega)];omega
 have e2:w64 ((p.length:Int)+1)=((p.length+1:Nat):Int):=by rw[show ((p.length:Int)+1)=((p.length+1:Nat):Int) by omega,YBa _ (by omega)]
 have hbody:q9a s (p.length:Int)=some (if c=46 then (if yza s p.length || r.isEmpty then .out (.inr false) else .cont ((p.length+1:Nat):Int)) else if yDa c then .cont ((p.length+1:Nat):Int) else .out (.inr false)):=by
  unfold q9a;rw[kfa hc,hidx];simp only[cond_true,Option.bind_some,vSa,jna c 46 (by decide),WVa c 45 (by decide),WVa c 46 (by decide),ZDa 97 c (by decide),ZEa 122 c (by decide),ZDa 48 c (by decide),ZEa 57 c (by decide),e1,e2];by_cases h46:c=46
  .subst h46;have hsm:(!(decide ((97:UInt8)<=46) && decide ((46:UInt8)<=122)))=true:=by decide
   have hsm2:(!(decide ((48:UInt8)<=46) && decide ((46:UInt8)<=57)))=true:=by decide
   simp only[beq_self_eq_true,cond_true,hsm,hsm2,if_true,bne_self_eq_false];by_cases h0:p.length=0
   .simp[h0,yza]
   have h0' :((p.length:Int)==0)=false:=by rw[beq_eq_false_iff_ne];omega
   by_cases hl:r=[]
   .subst hl;have:((p.length:Int)==((s.length - 1:Nat):Int))=true:=by rw[hlen];simp
    simp[h0',this]
   have hr:r.isEmpty=false:=by simpa using hl
   have hrl:0 < r.length:=List.length_pos_iff.2 hl;have:((p.length:Int)==((s.length - 1:Nat):Int))=false:=by rw[hlen];simp;omega
   have e3:w64 ((p.length:Int) - 1)=((p.length - 1:Nat):Int):=by rw[q7a (by omega) (by omega)];omega
   have hlt:p.length - 1 < s.length:=by omega
   simp only[h0',this,cond_false,e3,Jea hlt,Option.bind_some,hr,Bool.or_false,yza,if_neg h0,List.getElem?_eq_getElem hlt];rw[jna _ 46 (by decide)];by_cases hd:s[p.length - 1]=46
   .simp[hd]
   have:(s[p.length - 1]==46)=false:=by simpa using hd
   simp[this,hd]
  have h1:(c==46)=false:=by simpa using h46
  have h2:(c !=46)=true:=by simpa using h46
  simp only[h1,cond_false,if_neg h46,Option.bind_some,yDa,h2];by_cases ha:(decide ((97:UInt8)<=c) && decide (c<=122))=true
  .simp[ha]
  have ha:(decide ((97:UInt8)<=c) && decide (c<=122))=false:=by simpa using ha
  by_cases hb:(decide ((48:UInt8)<=c) && decide (c<=57))=true
  .simp[ha,hb]
  have hb:(decide ((48:UInt8)<=c) && decide (c<=57))=false:=by simpa using hb
  by_cases h45:c=45
  .subst h45;simp[ha,hb]
  have:(c==45)=false:=by simpa using h45
  simp[ha,hb,this,bne]
 have hp1:yza s (p.length+1)=decide (c=46):=by
  unfold yza;simp only[Nat.add_sub_cancel,Nat.add_one_ne_zero,if_false,hc];rw[Bool.eq_iff_iff];simp
 rw[hbody];rw[z8b];by_cases h46:c=46
 .subst h46;simp only[if_true];cases hq:(yza s p.length || r.isEmpty) with
  | true=>
   left;simp only[if_true];have:(!yza s p.length && !r.isEmpty && w8a true r)=false:=by
    cases hp:yza s p.length <;> simp_all
   rw[this];rfl
  | false=>
   right;refine ⟨(),rfl,?_⟩;have h3:yza s p.length=false:=by cases hp:yza s p.length <;> simp_all
   have h4:r.isEmpty=false:=by cases hp:r.isEmpty <;> simp_all
   rw[h3,h4,hp1];simp
 simp only[if_neg h46];cases hq:yDa c with
 | true=>right;exact ⟨(),rfl,by rw[hp1];simp[h46]⟩
 | false=>left;simp
theorem QRa(s:Str)(hs:s.length<=9223372036854775806):yPa s=some (domP s):=by
 unfold yPa;rw[WYa s hs];by_cases hn:s=[]
 .subst hn;simp[w8a,vSa,domP,ZCa]
 rw[vAb s true (.inl hn)];have hpos:0 < s.length:=List.length_pos_iff.2 hn;unfold domP;cases h:(s.all yDa && ZCa true s) with
 | false=>
  rw[Bool.and_assoc,h];simp
 | true=>
  rw[Bool.and_assoc,h];simp only[if_true,Option.bind_some,vSa,Bool.and_true,Sum.elim_inl,Option.some.injEq];rw[Bool.eq_iff_iff];simp;omega
theorem wXb(s:Str)(hs:s.length<=9223372036854775806):z4b s=some ((atP s:Nat):Int):=by
 unfold z4b;rw[z0a s (fun i c=>if c==64 then some (i:Int) else none) (.inl ()) .inr]
 .simp only[Option.bind_some];have key:∀(r:Str) (n:Nat),(kba (fun i (c:UInt8)=>if c==64 then some (i:Int) else none) n r).getD ((n+r.length:Nat):Int)=((n+r.findIdx (· ==64):Nat):Int):=by
   intro r;induction r with
   | nil=>intro n;simp[kba]
   | cons c r ih=>
    intro n;unfold kba;rw[List.findIdx_cons];cases hc:(c==64) with
    | true=>simp
    | false=>
     simp only[Bool.false_eq_true,if_false,cond_false];have:=ih (n+1);rw[show n+(c::r).length=n+1+r.length by simp;omega,show n+(r.findIdx (· ==64)+1)=n+1+r.findIdx (· ==64) by omega];exact this
  have:=key s 0;rw[Nat.zero_add,Nat.zero_add]at this;unfold atP;rw[<-this];cases kba (fun i (c:UInt8)=>if c==64 then some (i:Int) else none) 0 s <;> rfl
 .unfold QJa;rw[zQa];rfl
 intro i c hc;unfold QJa;have hi:=zYa hc;rw[kfa hc,zwa hc];simp only[cond_true,Option.bind_some,jna c 64 (by decide)];cases c==64 with
 | true=>rfl
 | false=>
  simp only[cond_false,Bool.false_eq_true,if_false];rw[show ((i:Int)+1)=((i+1:Nat):Int) by omega,YBa _ (by omega)];rfl
theorem KYa(s:Str)(hs:s.length<=9223372036854775806):w3a s=some (Vza s):=by
 have hat:atP s<=s.length:=List.findIdx_le_length;unfold w3a;rw[wXb s hs];simp only[Option.bind_some];have hloop:iter (wba s (atP s:Int)) 0=some ((kba (fun _ c=>if !V4a c then some false else none) 0 (s.take (atP s))).elim (.inl ()) .inr):=by
  refine z0a (s.take (atP s)) _ (Sum.inl ()) Sum.inr ?_ ?_
  .have:((s.take (atP s)).length:Int)=(atP s:Int):=by simp;omega
   unfold wba;rw[this];simp
  intro i c hc;have hi:=zYa hc;simp at hi;have hc2:s[i]? =some c:=by rw[List.getElem?_take_of_lt (by omega)]at hc;exact hc
  unfold wba;have:decide ((i:Int) < (atP s:Int))=true:=by simp;omega
  rw[this,zwa hc2];simp only[cond_true,Option.bind_some,jxa,WVa c 45 (by decide),WVa c 95 (by decide),WVa c 46 (by decide),WVa c 43 (by decide),WVa c 61 (by decide)];rw[show ((i:Int)+1)=((i+1:Nat):Int) by omega,YBa _ (by omega)];unfold V4a;cases WXa c <;> cases h1:(c==45) <;> cases h2:(c==95) <;> cases h3:(c==46) <;> cases h4:(c==43) <;> cases h5:(c==61) <;> simp[bne,h1,h2,h3,h4,h5]
 rw[hloop,yQa];unfold Vza;have hall:(s.take (atP s)).any (fun c=> !V4a c)= !((s.take (atP s)).all V4a):=by simp[List.not_all_eq_any_not]
 rw[hall];cases hg:(s.take (atP s)).all V4a with
 | false=>simp
 | true=>
  simp only[Bool.not_true,Bool.false_eq_true,if_false,Option.bind_some,vSa,Bool.and_true];by_cases h1:1<=atP s/\atP s<=60
  .have e1:(decide ((1:Int)<=(atP s:Int)) && decide ((atP s:Int)<=60))=true:=by simp;omega
   rw[e1];by_cases h2:atP s < s.length
   .have e2:decide ((atP s:Int) < (s.length:Int))=true:=by simp;omega
    rw[e2];simp only[cond_true];rw[show ((atP s:Int)+1)=((atP s+1:Nat):Int) by omega,YBa _ (by omega),ZBa (by omega)];simp only[Option.bind_some];rw[QRa _ (by simp;omega)];simp[h1,h2]
   have e2:decide ((atP s:Int) < (s.length:Int))=false:=by simp;omega
   rw[e2];simp[h2]
  have e1:(decide ((1:Int)<=(atP s:Int)) && decide ((atP s:Int)<=60))=false:=by
   rw[Bool.eq_false_iff];simp;omega
  rw[e1];simp only[cond_false,Option.bind_some]
  congr 1
  symm
  rcases Nat.lt_or_ge (atP s) 1 with h | h
  .have:decide (1<=atP s)=false:=by simp;omega
   rw[this];simp
  have:decide (atP s<=60)=false:=by simp;omega
  rw[this];simp
theorem J2a(s:Str):∀p,ZCa p s=(!(p && (s.isEmpty || s.head? ==some 46)) && !(s.getLast? ==some 46) && !Lib.contains s [46,46]):=by
 induction s with
 | nil=>intro p;cases p <;> simp[ZCa,Lib.contains,Lib.index]
 | cons c r ih=>
  intro p;have hcont:Lib.contains (c::r) [46,46]=((c==46 && r.head? ==some 46) || Lib.contains r [46,46]):=by
   unfold Lib.contains;rw[Lib.index];have hpre:([46,46]:List UInt8).isPrefixOf (c::r)=(c==46 && r.head? ==some 46):=by
    cases r with
    | nil=>simp[List.isPrefixOf]
    | cons d r=>simp only[List.isPrefixOf,List.head?_cons,Bool.and_true];rw[Bool.eq_iff_iff];simp;constructor <;> rintro ⟨rfl,rfl⟩ <;> exact ⟨rfl,rfl⟩
   rw[hpre];have hg:=Lib.index_ge r [46,46];cases c==46 && r.head? ==some 46 with
   | true=>simp
   | false=>
    simp only[Bool.false_eq_true,if_false,Bool.false_or];by_cases h:Lib.index r [46,46]= -1
    .simp[h]
    have:(Lib.index r [46,46]== -1)=false:=by simpa using h
    rw[this];simp only[Bool.false_eq_true,if_false];rw[Bool.eq_iff_iff];simp;omega
  rw[hcont,ZCa];have hlast:(c::r).getLast? =if r.isEmpty then some c else r.getLast? :=by cases r <;> simp
  rw[hlast];by_cases hc:c=46
  .subst hc;rw[if_pos rfl,ih true];cases r with
   | nil=>simp
   | cons d r=>cases p <;> cases hd:(d==46) <;> simp_all [Bool.and_comm,Bool.and_assoc,Bool.and_left_comm]
  have h1:(c==46)=false:=by simpa using hc
  have h2:(some c==some (46:UInt8))=false:=by simpa using hc
  rw[if_neg hc,ih false];cases r with
  | nil=>simp[h1,h2,Lib.contains,Lib.index,hc]
  | cons d r=>simp[h1,h2,hc]
theorem KIa(s t:Str):kYa s t=some (t.isPrefixOf s):=by
 unfold kYa kxa;by_cases h:t.length<=s.length
 .have:decide ((t.length:Int)<=(s.length:Int))=true:=by simp;omega
  rw[this,KXa h];simp only[cond_true,Option.bind_some,Option.some.injEq];rw[Bool.eq_iff_iff,beq_iff_eq,List.isPrefixOf_iff_prefix,List.prefix_iff_eq_take];constructor <;> exact fun h=>h.symm
 have:decide ((t.length:Int)<=(s.length:Int))=false:=by simp;omega
 rw[this];simp only[cond_false,Option.bind_some,Option.some.injEq]
 symm
 rw[Bool.eq_false_iff];intro hp;exact h (List.isPrefixOf_iff_prefix.1 hp).length_le
theorem KJa(s t:Str)(hs:s.length<=9223372036854775806):kZa s t=some (t.isSuffixOf s):=by
 unfold kZa kya;by_cases h:t.length<=s.length
 .have:decide ((t.length:Int)<=(s.length:Int))=true:=by simp;omega
  rw[this,w64_ns _ _ h (by omega),ZBa (by omega)];simp only[cond_true,Option.bind_some,Option.some.injEq];rw[Bool.eq_iff_iff,beq_iff_eq,List.isSuffixOf_iff_suffix,List.suffix_iff_eq_drop];constructor <;> exact fun h=>h.symm
 have:decide ((t.length:Int)<=(s.length:Int))=false:=by simp;omega
 rw[this];simp only[cond_false,Option.bind_some,Option.some.injEq]
 symm
 rw[Bool.eq_false_iff];intro hp;exact h (List.isSuffixOf_iff_suffix.1 hp).length_le
theorem dom_char(c:UInt8):((bif decide ((97:UInt8)<=c) then (bif decide (c<=122) then some true else (bif decide ((48:UInt8)<=c) then (bif decide (c<=57) then some true else (bif (c==45) then some true else some (c==46))) else (bif (c==45) then some true else some (c==46)))) else (bif decide ((48:UInt8)<=c) then (bif decide (c<=57) then some true else (bif (c==45) then some true else some (c==46))) else (bif (c==45) then some true else some (c==46)))):Option Bool)=some (yDa c):=by
 unfold yDa;cases decide ((97:UInt8)<=c) <;> cases decide (c<=122) <;> cases decide ((48:UInt8)<=c) <;> cases decide (c<=57) <;> cases (c==45) <;> rfl
theorem jya(s:Str)(hs:s.length < 4294967281):q0a s=some (domP s):=by
 have hloop:iter (qIa s) 0=some ((kba (fun _ c=>if !yDa c then some () else none) 0 s).elim (.inl ()) .inr):=by
  refine z0a s _ (Sum.inl ()) Sum.inr ?_ ?_
  .unfold qIa;rw[zQa];rfl
  intro i c hc;have hi:=zYa hc;unfold qIa;rw[kfa hc,zwa hc];simp only[cond_true,Option.bind_some,jna c 45 (by decide),jna c 46 (by decide),ZDa 97 c (by decide),ZEa 122 c (by decide),ZDa 48 c (by decide),ZEa 57 c (by decide),dom_char];rw[show ((i:Int)+1)=((i+1:Nat):Int) by omega,YBa _ (by omega)];cases yDa c <;> rfl
 unfold q0a domP;rw[hloop,yQa,J2a];by_cases hn:s=[]
 .subst hn;simp
 have h1:(s !=([]:Str))=true:=by simpa using hn
 rw[h1];simp only[cond_true];by_cases hl:s.length<=60
 .have h2:decide ((s.length:Int)<=60)=true:=by simp;omega
  rw[h2];have hall:s.any (fun c=> !yDa c)= !(s.all yDa):=by simp[List.not_all_eq_any_not]
  rw[hall];cases hg:s.all yDa with
  | false=>simp[hl]
  | true=>
   simp only[Bool.not_true,Bool.false_eq_true,if_false,Option.elim,Option.bind_some,cond_true,KIa,KJa s [46] (by omega),qca,if_pos hs];have hp:([46]:Str).isPrefixOf s=(s.head? ==some 46):=by
    cases s with
    | nil=>rfl
    | cons d r=>simp only[List.isPrefixOf,List.head?_cons,Bool.and_true];rw[Bool.eq_iff_iff];simp;exact ⟨fun h=>h.symm,fun h=>h.symm⟩
   have hsf:([46]:Str).isSuffixOf s=(s.getLast? ==some 46):=by
    rw[Bool.eq_iff_iff,List.isSuffixOf_iff_suffix,beq_iff_eq];constructor
    .rintro ⟨t,rfl⟩;simp
    intro h;obtain ⟨ys,rfl⟩:=List.getLast?_eq_some_iff.1 h;exact ⟨ys,rfl⟩
   have he:s.isEmpty=false:=by simpa using hn
   rw[hp,hsf,he];cases s.head? ==some 46 <;> cases s.getLast? ==some 46 <;> cases Lib.contains s [46,46] <;> simp[hl]
 have h2:decide ((s.length:Int)<=60)=false:=by simp;omega
 rw[h2];simp[hl]
theorem J3a(s:Str):Lib.index s [64]=if atP s < s.length then (atP s:Int) else -1:=by
 rw[Lib.index_one];unfold atP;induction s with
 | nil=>rfl
 | cons c r ih=>
  rw[Lib.indexByte,List.findIdx_cons];cases hc:(c==64) with
  | true=>simp
  | false=>
   simp only[Bool.false_eq_true,if_false,cond_false,List.length_cons];rw[ih];by_cases h:r.findIdx (· ==64) < r.length
   .simp only[if_pos h,if_pos (show r.findIdx (· ==64)+1 < r.length+1 by omega)];have:(((r.findIdx (· ==64):Nat):Int)== -1)=false:=by rw[beq_eq_false_iff_ne];omega
    rw[this];simp
   simp only[if_neg h,if_neg (show ¬(r.findIdx (· ==64)+1 < r.length+1) by omega)];simp
theorem cut_at(s:Str):Lib.cut s [64]=if atP s < s.length then (s.take (atP s),s.drop (atP s+1),true) else (s,[],false):=by
 unfold Lib.cut;rw[J3a];by_cases h:atP s < s.length
 .rw[if_pos h,if_pos h,if_pos (by omega)];simp
 rw[if_neg h,if_neg h,if_neg (by omega)]
def Jfa(s:Str):Str × Str × Bool:=if atP s < s.length then (s.take (atP s),s.drop (atP s+1),Vza s) else (s,[],false)
theorem wYb(c:UInt8):(WXa c || decide (0<=Lib.indexByte [45,95,46,43,61] c))=V4a c:=by
 unfold V4a;by_cases h1:c=45
 .subst h1;decide
 by_cases h2:c=95
 .subst h2;decide
 by_cases h3:c=46
 .subst h3;decide
 by_cases h4:c=43
 .subst h4;decide
 by_cases h5:c=61
 .subst h5;decide
 rw[beq_eq_false_iff_ne.2 h1,beq_eq_false_iff_ne.2 h2,beq_eq_false_iff_ne.2 h3,beq_eq_false_iff_ne.2 h4,beq_eq_false_iff_ne.2 h5];simp[Lib.indexByte,Ne.symm h1,Ne.symm h2,Ne.symm h3,Ne.symm h4,Ne.symm h5]
theorem j4a(s:Str)(hs:s.length < 4294967281):vsa s=some (Jfa s):=by
 have hloop:∀v:Str × Str × Bool,v.1.length < 4294967281->iter (q1a v) 0=some ((kba (fun _ c=>if !V4a c then some () else none) 0 v.1).elim (.inl ()) .inr):=by
  intro v hv;refine z0a v.1 _ (Sum.inl ()) Sum.inr ?_ ?_
  .unfold q1a;rw[zQa];rfl
  intro i c hc;have hi:=zYa hc;unfold q1a;rw[kfa hc,zwa hc];simp only[cond_true,Option.bind_some,Kaa,kka];rw[show ((i:Int)+1)=((i+1:Nat):Int) by omega,YBa _ (by omega)];have hg:=wYb c;cases hl:WXa c with
  | true=>rw[hl]at hg;simp only[Bool.true_or]at hg;rw[<-hg];rfl
  | false=>rw[hl]at hg;simp only[Bool.false_or]at hg;rw[<-hg];cases decide (0<=Lib.indexByte [45,95,46,43,61] c) <;> rfl
 unfold vsa wqa;rw[if_pos hs,cut_at];simp only[Option.bind_some];unfold Jfa;by_cases h:atP s < s.length
 .simp only[if_pos h,cond_true];rw[hloop _ (by simp;omega),yQa];have hall:(s.take (atP s)).any (fun c=> !V4a c)= !((s.take (atP s)).all V4a):=by simp[List.not_all_eq_any_not]
  simp only[hall];have hlen:(s.take (atP s)).length=atP s:=by simp;omega
  rw[hlen,jya _ (by simp;omega)];unfold Vza;by_cases h0:atP s=0
  .simp[h0]
  have hne:(s.take (atP s) !=([]:Str))=true:=by
   simp only[bne_iff_ne,ne_eq];intro hx;have:=congrArg List.length hx;rw[hlen]at this;simp at this;omega
  rw[hne];by_cases h60:atP s<=60
  .have e:decide ((atP s:Int)<=60)=true:=by simp;omega
   rw[e];cases (s.take (atP s)).all V4a <;> simp[h,h60] <;> omega
  have e:decide ((atP s:Int)<=60)=false:=by simp;omega
  rw[e];simp[h60]
 simp[if_neg h]
theorem k5b(s:Str):(Jfa s).2.2=Vza s:=by
 unfold Jfa;by_cases h:atP s < s.length
 .rw[if_pos h]
 rw[if_neg h];unfold Vza;simp[h]
theorem jba(s:Str)(hs:s.length < 4294967281):qya s=some (Vza s):=by
 unfold qya;rw[j4a s hs];simp[k5b]
abbrev Lft:=Option (List UInt8)
def rdr:Lft->zja
 | none=>⟨[],true⟩
 | some b=>⟨b,false⟩
def cur:Lft->zfa
 | none=>⟨[],true⟩
 | some b=>⟨b,false⟩
def pN:Lft->Int × Lft
 | none=>(0,none)
 | some b=>if b.length < 8 then (0,none) else (wVb (b.take 8),some (b.drop 8))
def pT(s:Lft):Str × Lft:=match pN s with
 | (n,some b)=>if 0<=n/\n<=(b.length:Int) then (b.take n.toNat,some (b.drop n.toNat)) else ([],none)
 | (_,none)=>([],none)
theorem qFb:∀(a b:List UInt8),valB (a++b)=valB a+256 ^ a.length * valB b
 | [],b=>by simp[valB]
 | c::a,b=>by
  show c.toNat+256 * valB (a++b)=c.toNat+256 * valB a+256 ^ (a.length+1) * valB b;rw[qFb a b,Nat.pow_succ,Nat.mul_add,Nat.add_assoc,Nat.mul_comm (256 ^ a.length) 256,Nat.mul_assoc]
theorem or_shl(u c i:Nat)(hu:u < 256 ^ i)(hc:c < 256)(hi:i < 8):uOr (u:Int) (uShl (c:Int) (w64 (8 * (i:Int))))=((u+256 ^ i * c:Nat):Int):=by
 have hp:(256:Nat) ^ i=2 ^ (8 * i):=by rw[Nat.pow_mul]
 have hle:256 ^ i * 256<=256 ^ 8:=by rw[<-Nat.pow_succ];exact Nat.pow_le_pow_right (by decide) (by omega)
 have h8:(256:Nat) ^ 8=18446744073709551616:=by decide
 have hcc:256 ^ i * c+256 ^ i<=256 ^ i * 256:=by rw[<-Nat.mul_succ];exact Nat.mul_le_mul_left _ hc
 have hpos:0 < 256 ^ i:=Nat.pow_pos (by decide);have hs:uShl (c:Int) (w64 (8 * (i:Int)))=((256 ^ i * c:Nat):Int):=by
  unfold uShl wu64;rw[q7a (by omega) (by omega),show (8 * (i:Int)).toNat=8 * i by omega,Nat.min_eq_left (by omega)];have h2:((2:Int) ^ (8 * i))=((256 ^ i:Nat):Int):=by
   rw[hp,Int.natCast_pow];rfl
  rw[h2,Int.mul_comm,<-Int.natCast_mul];omega
 rw[hs];unfold uOr;rw[BitVec.toNat_or,BitVec.toNat_ofInt,BitVec.toNat_ofInt];have e1:((u:Int) % ((2 ^ 64:Nat):Int)).toNat=u:=by
  rw[show ((2 ^ 64:Nat):Int)=18446744073709551616 by decide];omega
 have e2:(((256 ^ i * c:Nat):Int) % ((2 ^ 64:Nat):Int)).toNat=256 ^ i * c:=by
  rw[show ((2 ^ 64:Nat):Int)=18446744073709551616 by decide];omega
 rw[e1,e2,Nat.or_comm,hp];rw[hp]at hu;rw[<-Nat.two_pow_add_eq_or_of_lt hu]
 congr 1
 omega
theorem vBb(x:zja){body:Int × Int->Option (Step (Int × Int) Int)}(hb:body=kCa x)(hl:8<=x.b.length):∀(k i:Nat),i+k=8->
 iter body ((valB (x.b.take i):Int),(i:Int))=some (valB (x.b.take 8):Int):=by
 intro k;induction k with
 | zero=>
  intro i hi;obtain rfl:i=8:=by omega
  subst hb;refine zEa ?_;unfold kCa;simp
 | succ k ih=>
  intro i hi;have hx:x.b[i]? =some x.b[i]:=List.getElem?_eq_getElem (by omega);generalize x.b[i]=c at hx;have hc:=UInt8.toNat_lt c;have htl:(x.b.take i).length=i:=by rw[List.length_take];omega
  have hv:=J1a (x.b.take i);rw[htl]at hv;have ht:x.b.take (i+1)=x.b.take i++ [c]:=by
   rw[List.take_add_one,hx];rfl
  have hc:body ((valB (x.b.take i):Int),(i:Int))=some (.cont ((valB (x.b.take (i+1)):Int),((i+1:Nat):Int))):=by
   subst hb;unfold kCa;dsimp only;rw[decide_eq_true (show (i:Int) < 8 by omega),zwa hx];have hn:nng (w64 (8 * (i:Int)))=some true:=by
    unfold nng;rw[q7a (by omega) (by omega),if_pos (by omega)]
   simp only[cond_true,Option.bind_some,hn,sc i (by omega)];rw[or_shl _ _ i hv hc (by omega),ht,qFb,htl];simp[valB]
  rw[zTa hc];exact ih (i+1) (by omega)
theorem zHa(s:Lft)(h:∀b,s=some b->b.length<=1048576):zDa (rdr s)=some ((pN s).1,rdr (pN s).2):=by
 cases s with
 | none=>rfl
 | some b=>
  have hbl:=h b rfl;unfold zDa pN rdr;dsimp only;by_cases hb:b.length < 8
  .rw[decide_eq_true (show (b.length:Int) < 8 by omega),if_pos hb];rfl
  rw[decide_eq_false (show ¬(b.length:Int) < 8 by omega),if_neg hb];simp only[cond_false];have:=vBb ⟨b,false⟩ rfl (by show 8<=b.length;omega) 8 0 rfl;rw[show iter (kCa ⟨b,false⟩) (0,0)=_ from this];simp only[Option.bind_some];rw[show ((8:Int))=((8:Nat):Int) from rfl,ZBa (by omega)];rfl
theorem vCb(x:zfa)(hl:8<=x.b.length):∀(j:Nat),j<=8->
 iter (qra x) ((valB ((x.b.take 8).drop j):Int),(j:Int) - 1)=some (valB (x.b.take 8):Int):=by
 intro j;induction j with
 | zero=>
  intro _;refine zEa ?_;unfold qra;simp
 | succ j ih=>
  intro hj;have hx:x.b[j]? =some x.b[j]:=List.getElem?_eq_getElem (by omega);generalize x.b[j]=c at hx;have hcl:=UInt8.toNat_lt c;have hd:(x.b.take 8).drop j=c::(x.b.take 8).drop (j+1):=by
   have hx2:(x.b.take 8)[j]? =some c:=by rw[List.getElem?_take_of_lt (by omega)];exact hx
   obtain ⟨h1,h2⟩:=List.getElem?_eq_some_iff.1 hx2;rw[List.drop_eq_getElem_cons h1,h2]
  have hv:=J1a ((x.b.take 8).drop (j+1));have hlen:((x.b.take 8).drop (j+1)).length=7 - j:=by rw[List.length_drop,List.length_take];omega
  rw[hlen]at hv;have hle:256 ^ (7 - j)<=256 ^ 7:=Nat.pow_le_pow_right (by decide) (by omega);have h7:(256:Nat) ^ 7=72057594037927936:=by decide
  have hc:qra x ((valB ((x.b.take 8).drop (j+1)):Int),((j+1:Nat):Int) - 1)=some (.cont ((valB ((x.b.take 8).drop j):Int),(j:Int) - 1)):=by
   unfold qra;dsimp only;rw[show (((j+1:Nat):Int) - 1)=(j:Int) by omega,decide_eq_true (show (0:Int)<=(j:Int) by omega),zwa hx];simp only[cond_true,Option.bind_some];rw[q7a (by omega) (by omega),hd];have:wu64 (wu64 (256 * (valB ((x.b.take 8).drop (j+1)):Int))+(c.toNat:Int))=((valB (c::(x.b.take 8).drop (j+1)):Nat):Int):=by
    unfold wu64;show _=((c.toNat+256 * valB ((x.b.take 8).drop (j+1)):Nat):Int);omega
   rw[this]
  rw[zTa hc];exact ih (by omega)
theorem kNa(s:Lft):zXa (cur s)=some (cur (pN s).2,(pN s).1):=by
 cases s with
 | none=>rfl
 | some b=>
  unfold zXa pN cur;dsimp only;simp only[cond_false,Option.bind_some];by_cases hb:b.length < 8
  .rw[decide_eq_true (show (b.length:Int) < 8 by omega),if_pos hb];rfl
  rw[decide_eq_false (show ¬(b.length:Int) < 8 by omega),if_neg hb];simp only[cond_false];have:=vCb ⟨b,false⟩ (by show 8<=b.length;omega) 8 (Nat.le_refl _);have hz:((b.take 8).drop 8)=[]:=List.drop_of_length_le (by rw[List.length_take];omega);rw[show (zfa.mk b false).b=b from rfl,hz]at this;rw[show iter (qra ⟨b,false⟩) (0,7)=_ from this];simp only[Option.bind_some];rw[show ((8:Int))=((8:Nat):Int) from rfl,ZBa (by omega)];rfl
theorem yEa{s:Lft}{n:Int}{b:List UInt8}(h:pN s=(n,some b)):∃b0,s=some b0/\b.length+8=b0.length/\ok64 n/\b0=num8 n++b:=by
 cases s with
 | none=>cases h
 | some b0=>
  unfold pN at h;dsimp only at h;split at h
  .cases h
  rename_i hb;cases h;have h8:(b0.take 8).length=8:=by rw[List.length_take];omega
  refine ⟨b0,rfl,by rw[List.length_drop];omega,qEb _,?_⟩;rw[vzb _ h8,List.take_append_drop]
theorem wSa(n:Int)(h:ok64 n)(b:List UInt8):pN (some (num8 n++b))=(n,some b):=by
 unfold pN;dsimp only;have h8:=kna n;rw[if_neg (by rw[List.length_append];omega),List.take_left' h8,List.drop_left' h8,Vya n h]
theorem ZFa(s:Str)(h:s.length<=1048576)(b:List UInt8):pT (some (encT s++b))=(s,some b):=by
 unfold pT encT;rw[List.append_assoc,wSa _ (by unfold ok64;omega)];dsimp only;rw[if_pos ⟨by omega,by rw[List.length_append];omega⟩];simp
theorem Kba{s:Lft}{t:Str}{b:List UInt8}(h:pT s=(t,some b)):∃b0,s=some b0/\b.length+8+t.length=b0.length/\b0=encT t++b:=by
 unfold pT at h;split at h
 .rename_i n b1 hn;obtain ⟨b0,rfl,h1,h2,h3⟩:=yEa hn;split at h
  .rename_i hc;cases h;have hl:(b1.take n.toNat).length=n.toNat:=by rw[List.length_take];omega
   refine ⟨b0,rfl,by rw[List.length_drop,hl];omega,?_⟩;unfold encT;rw[hl,Int.toNat_of_nonneg hc.1,List.append_assoc,List.take_append_drop];exact h3
  cases h
 cases h
theorem pN_none(s:Lft):(pN s).2=none∨∃b b0,(pN s).2=some b/\s=some b0/\b.length+8=b0.length:=by
 cases h:(pN s).2 with
 | none=>exact .inl rfl
 | some b=>
  obtain ⟨b0,h1,h2,_⟩:=yEa (s:=s) (n:=(pN s).1) (b:=b) (by rw[<-h]);exact .inr ⟨b,b0,rfl,h1,h2⟩
def k8a(s:Lft):Prop:=∀b,s=some b->b.length<=1048576
theorem z9a{s:Lft}(h:k8a s):k8a (pN s).2:=by
 intro b hb;rcases pN_none s with h1 | ⟨b1,b0,h1,h2,h3⟩
 .rw[h1]at hb;cases hb
 rw[h1]at hb;cases hb;have:=h b0 h2;omega
theorem kSa{s:Lft}(h:k8a s):k8a (pT s).2/\(pT s).1.length<=1048576:=by
 cases hp:(pT s).2 with
 | none=>
  refine ⟨fun b hb=>(by cases hb),?_⟩;unfold pT at hp ⊢;split at hp
  .split at hp
   .cases hp
   rename_i hc;rw[if_neg hc];simp
  simp
 | some b=>
  obtain ⟨b0,h1,h2,_⟩:=Kba (s:=s) (t:=(pT s).1) (b:=b) (by rw[<-hp]);have:=h b0 h1;exact ⟨fun b' hb=>by cases hb;omega,by omega⟩
theorem kda(s:Lft)(h:k8a s):z5a (rdr s)=some ((pT s).1,rdr (pT s).2):=by
 have hs:=z9a h;unfold z5a pT;rw[zHa s h];simp only[Option.bind_some];generalize pN s=q at hs;obtain ⟨n,q2⟩:=q;cases q2 with
 | none=>
  unfold rdr;dsimp only;by_cases hn:n < 0
  .rw[decide_eq_true hn];rfl
  rw[decide_eq_false hn];by_cases h0:n=0
  .subst h0;rfl
  simp only[List.length_nil,cond_false,Option.bind_some];rw[decide_eq_true (show ((0:Nat):Int) < n by omega)];rfl
 | some b=>
  have hb:=hs b rfl;unfold rdr;dsimp only;by_cases hc:0<=n/\n<=(b.length:Int)
  .rw[if_pos hc,decide_eq_false (show ¬n < 0 by omega)];simp only[cond_false,Option.bind_some];rw[decide_eq_false (show ¬(b.length:Int) < n by omega)];obtain ⟨m,rfl⟩:∃m:Nat,n=(m:Int):=⟨n.toNat,by omega⟩;simp only[cond_false];rw[KXa (by omega),ZBa (by omega)];rfl
  rw[if_neg hc];by_cases hn:n < 0
  .rw[decide_eq_true hn];rfl
  rw[decide_eq_false hn];simp only[cond_false,Option.bind_some];rw[decide_eq_true (show (b.length:Int) < n by omega)];rfl
theorem qLa(s:Lft):k9a (cur s)=some (cur (pT s).2,(pT s).1):=by
 unfold k9a pT;rw[kNa s];simp only[Option.bind_some];generalize pN s=q;obtain ⟨n,q2⟩:=q;cases q2 with
 | none=>rfl
 | some b=>
  unfold cur;dsimp only;simp only[cond_false,vSa,Option.bind_some];by_cases hc:0<=n/\n<=(b.length:Int)
  .rw[if_pos hc,decide_eq_true hc.1,decide_eq_true hc.2];obtain ⟨m,rfl⟩:∃m:Nat,n=(m:Int):=⟨n.toNat,by omega⟩;simp only[Bool.and_self,Bool.not_true,cond_false];rw[ZBa (by omega),KXa (by omega)];rfl
  rw[if_neg hc];have:(decide (0<=n) && decide (n<=(b.length:Int)))=false:=by
   rw[Bool.and_eq_false_iff,decide_eq_false_iff_not,decide_eq_false_iff_not];omega
  rw[this];rfl
theorem KZa(o:Option Unit)(a b:Bool):Sum.elim (fun _=>some a) (fun _=>some b) (o.elim (Sum.inl ()) Sum.inr:Unit ⊕ Unit)=some (bif o.isSome then b else a):=by cases o <;> rfl
theorem Zwa{α R:Type}(c:α->Bool)(r:R)(l:List α)(n:Nat):(kba (fun _ x=>if c x then some r else none) n l).isSome=l.any c:=by
 rw[yQa];cases l.any c <;> rfl
theorem J4a{α:Type}(l:List α)(p:α->Bool):l.any (fun x=> !p x)= !l.all p:=by simp[List.not_all_eq_any_not]
theorem jca(a b:Int):R_At a b=some ⟨a,b⟩:=rfl
theorem zMa(a b:Int):zpa a b=some ⟨a,b⟩:=rfl
theorem kEa:kpa=some ⟨0,0⟩:=rfl
theorem z6a(f:zqa):z3a f=some (f.Code !=0):=rfl
theorem VAa(o:Option zqa)(f:zqa):Sum.elim (fun _=>some f) (fun b=>some b) (o.elim (Sum.inl ()) Sum.inr:Unit ⊕ zqa)=some (o.getD f):=by cases o <;> rfl
def k6b(c:UInt8):Bool:=WXa c || c==45 || c==95 || c==46
def k7b(s:Str):Bool:=decide (1<=s.length) && decide (s.length<=60) && s.all k6b
theorem k8b(s:Str)(hs:s.length<=1048576):QKa s=some (k7b s):=by
 unfold QKa;rw[z0a s (fun _ c=>if !k6b c then some false else none) (.inl ()) .inr,yQa,J4a]
 .simp only[Option.bind_some,vSa];unfold k7b;have e1:decide ((1:Int)<=(s.length:Int))=decide (1<=s.length):=by rw[Bool.eq_iff_iff];simp;omega
  have e2:decide ((s.length:Int)<=60)=decide (s.length<=60):=by rw[Bool.eq_iff_iff];simp;omega
  rw[<-e1,<-e2];cases s.all k6b <;> simp
 .unfold Zma;rw[zQa];rfl
 intro i c hc;have hi:=zYa hc;unfold Zma;rw[kfa hc,zwa hc];simp only[cond_true,Option.bind_some,jxa,WVa c 45 (by decide),WVa c 95 (by decide),WVa c 46 (by decide),sc i (by omega)];unfold k6b bne;cases WXa c <;> cases (c==45) <;> cases (c==95) <;> cases (c==46) <;> rfl
theorem J5a(s:Str)(hs:s.length<=1048576):jRa s=some (k7b s):=by
 have hloop:iter (wEa s) 0=some ((kba (fun _ c=>if !k6b c then some () else none) 0 s).elim (.inl ()) .inr):=by
  refine z0a s _ (Sum.inl ()) Sum.inr ?_ ?_
  .unfold wEa;rw[zQa];rfl
  intro i c hc;have hi:=zYa hc;unfold wEa;rw[kfa hc,zwa hc];simp only[cond_true,Option.bind_some,Kaa,jna c 45 (by decide),jna c 95 (by decide),jna c 46 (by decide),sc i (by omega)];unfold k6b;cases WXa c <;> cases (c==45) <;> cases (c==95) <;> cases (c==46) <;> rfl
 unfold jRa k7b;rw[hloop];simp only[Option.bind_some,KZa,Zwa,J4a];by_cases hn:s=[]
 .subst hn;rfl
 have h1:(s !=([]:Str))=true:=by simpa using hn
 have h2:decide (1<=s.length)=true:=by have:=List.length_pos_iff.2 hn;simp;omega
 have e2:decide ((s.length:Int)<=60)=decide (s.length<=60):=by rw[Bool.eq_iff_iff];simp;omega
 rw[h1,h2,e2];cases decide (s.length<=60) <;> cases s.all k6b <;> rfl
def wZb(n:Int):Bool:=decide (0<=n) && decide (n<=7)
def recQ(l:List zba)(i:Nat)(r:zba):Option zqa:=
 if !Vza r.Address then some ⟨10,i⟩ else if !wZb r.Notify then some ⟨3,i⟩ else if (l.take i).any (fun x=>x.Address==r.Address) then some ⟨7,i⟩ else none
def recF(l:List zba):zqa:=(kba (recQ l) 0 l).getD ⟨0,0⟩
def fromB(s:Str):Bool:=s !=([]:Str) && !Vza s
def envF(e:zGa):zqa:=if fromB e.From then ⟨10, -10⟩ else if decide (e.To.length < 1) || decide (60 < e.To.length) then ⟨2, -11⟩ else if e.Id !=([]:Str) && !k7b e.Id then ⟨10, -12⟩ else recF e.To
def smallR(l:List zba):Prop:=l.length<=1048576/\∀a∈l,a.Address.length<=1048576
def z9b(e:zGa):Prop:=e.From.length<=1048576/\e.Id.length<=1048576/\smallR e.To
theorem vDb(l:List zba)(s:Str)(hl:l.length<=1048576):WUa l s=some ((kba (fun i x=>if x.Address==s then some ((i:Nat):Int) else none) 0 l).getD (-1)):=by
 unfold WUa;rw[z0a l (fun i x=>if x.Address==s then some ((i:Nat):Int) else none) (.inl ()) .inr]
 .simp only[Option.bind_some,QQa]
 .unfold KFa;rw[zQa];rfl
 intro i x hx;have hi:=zYa hx;unfold KFa;rw[kfa hx,zwa hx];simp only[cond_true,Option.bind_some,sc i (by omega)];cases x.Address==s <;> rfl
theorem QSa(n:Int):vKa n=some (wZb n):=by unfold vKa wZb;cases decide (0<=n) <;> rfl
theorem qGb(l:List zba)(i:Nat)(s:Str)(hl:l.length<=1048576):decide ((0:Int)<=(kba (fun i x=>if x.Address==s then some ((i:Nat):Int) else none) 0 (l.take i)).getD (-1))=(l.take i).any (fun x=>x.Address==s):=wSb (fun x=>x.Address==s) (l.take i) 0
theorem QTa(e:zGa)(h:z9b e):vJa e=some (envF e):=by
 obtain ⟨h1,h2,h3,h4⟩:=h;unfold vJa envF;rw[KYa _ (by omega),k8b _ h2];have hloop:iter (qJa e) 0=some ((kba (recQ e.To) 0 e.To).elim (.inl ()) .inr):=by
  refine z0a e.To _ (Sum.inl ()) Sum.inr ?_ ?_
  .unfold qJa;rw[zQa];rfl
  intro i r hr;have hi:=zYa hr;have ha:=h4 r (List.mem_of_getElem? hr);unfold qJa recQ;rw[kfa hr,zwa hr];simp only[cond_true,Option.bind_some,KYa _ (show r.Address.length<=9223372036854775806 by omega),jca,vSa,KXa (Nat.le_of_lt hi),vDb _ _ (show (e.To.take i).length<=1048576 by simp;omega),qGb _ _ _ h3,sc i (by omega)];unfold wZb;cases Vza r.Address <;> cases (decide (0<=r.Notify) && decide (r.Notify<=7)) <;> cases (e.To.take i).any (fun x=>x.Address==r.Address) <;> rfl
 rw[hloop];simp only[Option.bind_some,VAa,vSa,jca];have e1:(!(decide ((1:Int)<=(e.To.length:Int)) && decide ((e.To.length:Int)<=60)))=(decide (e.To.length < 1) || decide (60 < e.To.length)):=by generalize e.To.length=n;rw[Bool.eq_iff_iff];simp;omega
 rw[e1];unfold fromB recF;cases e.From !=([]:Str) <;> cases Vza e.From <;> cases (decide (e.To.length < 1) || decide (60 < e.To.length)) <;> cases e.Id !=([]:Str) <;> cases k7b e.Id <;> rfl
theorem ZPa(l:List zba)(h:smallR l):qqa l=some (recF l):=by
 obtain ⟨h3,h4⟩:=h;unfold qqa recF;rw[z0a l (recQ l) (.inl ()) .inr]
 .simp only[Option.bind_some,kEa,VAa]
 .unfold qua;rw[zQa];rfl
 intro i r hr;have hi:=zYa hr;have ha:=h4 r (List.mem_of_getElem? hr);have hl2:iter (kUa r (l.take i)) 0=some ((kba (fun i x=>if x.Address==r.Address then some ((i:Nat):Int) else none) 0 (l.take i)).elim (.inl ()) .inr):=by
  refine z0a (l.take i) _ (Sum.inl ()) Sum.inr ?_ ?_
  .unfold kUa;rw[zQa];rfl
  intro k x hx;have hk:=zYa hx;simp at hk;unfold kUa;rw[kfa hx,zwa hx];simp only[cond_true,Option.bind_some,sc k (by omega)];cases x.Address==r.Address <;> rfl
 unfold qua recQ;rw[kfa hr,zwa hr];simp only[cond_true,Option.bind_some,jba _ (show r.Address.length < 4294967281 by omega),zMa,QSa,KXa (Nat.le_of_lt hi),hl2,QQa,qGb _ _ _ h3,sc i (by omega)];cases Vza r.Address <;> cases wZb r.Notify <;> cases (l.take i).any (fun x=>x.Address==r.Address) <;> rfl
theorem KKa(e:zGa)(h:z9b e):q2a e=some (envF e):=by
 obtain ⟨h1,h2,h3⟩:=h;unfold q2a envF;rw[jba _ (by omega),J5a _ h2,ZPa _ h3];have e1:decide ((e.To.length:Int) < 1)=decide (e.To.length < 1):=by generalize e.To.length=n;rw[Bool.eq_iff_iff];simp;omega
 have e2:decide ((60:Int) < (e.To.length:Int))=decide (60 < e.To.length):=by rw[Bool.eq_iff_iff];simp;omega
 simp only[Option.bind_some,zMa,e1,e2];unfold fromB;cases e.From !=([]:Str) <;> cases Vza e.From <;> cases decide (e.To.length < 1) <;> cases decide (60 < e.To.length) <;> cases e.Id !=([]:Str) <;> cases k7b e.Id <;> rfl
theorem J6a(s:Str)(i:Nat)(h:i < s.length):(strB s)[i]'(by rw[kDa];exact h)=s[i]:=rfl
theorem w0b(s:Str)(i:Nat)(h:i < s.length):(strB s).get! i=s[i]:=by
 have:=get_at (strB s) i (by rw[kDa];exact h);rw[Nat.add_zero]at this;rw[this];rfl
theorem Jga{s:Str}{i:Nat}{c:UInt8}(h:s[i]? =some c)(hc:c.toNat < 128):KUa s i=(c.toNat:Int)/\jOa s i=1:=by
 have hi:=zYa h;have e:s[i]=c:=by rw[List.getElem?_eq_getElem hi]at h;exact Option.some.inj h
 have hd:=decode_ascii (strB s) i (by rw[kDa];exact hi) (by rw[J6a s i hi,e];exact hc);unfold KUa jOa;rw[hd,J6a s i hi,e];exact ⟨rfl,rfl⟩
theorem w1b{s:Str}{i:Nat}{c:UInt8}(h:s[i]? =some c)(hc:128<=c.toNat):128<=KUa s i/\KUa s i<=2147483647/\1<=jOa s i:=by
 have hi:=zYa h;have e:s[i]=c:=by rw[List.getElem?_eq_getElem hi]at h;exact Option.some.inj h
 have hd:=decode_high (strB s) i (by rw[kDa];exact hi) (by rw[J6a s i hi,e];exact hc);have hl:=decode_le (strB s) i;unfold KUa jOa;exact ⟨by omega,by omega,hd.2⟩
theorem k9b(s:ByteArray)(pos:Nat):∀k,1<=k->k < (Utf8.decode s pos).2->(s.get! (pos+k)).toNat / 64=2:=by
 intro k h1 h2;simp only[Utf8.decode]at h2;repeat' split at h2
 all_goals first
  | (exfalso;simp at h2;omega)
  | (
   rename_i hq _;simp only[Bool.and_eq_true,decide_eq_true_eq,beq_iff_eq]at hq;have h2:k < 2:=h2;obtain rfl:k=1:=by omega
   exact hq.2.2)
  | (
   rename_i hq _;simp only[Bool.and_eq_true,decide_eq_true_eq,beq_iff_eq]at hq;have h2:k < 3:=h2;have:k=1∨k=2:=by omega
   rcases this with rfl | rfl
   .exact hq.1.2.2
   exact hq.2.2)
  | (
   rename_i hq _;simp only[Bool.and_eq_true,decide_eq_true_eq,beq_iff_eq]at hq;have h2:k < 4:=h2;have:k=1∨k=2∨k=3:=by omega
   rcases this with rfl | rfl | rfl
   .exact hq.1.1.2.2
   .exact hq.1.2.2
   exact hq.2.2)
theorem w2b{s:Str}{i j:Nat}{c d:UInt8}(h:s[i]? =some c)(hc:128<=c.toNat)(h1:i<=j)(h2:j < i+jOa s i)(hj:s[j]? =some d):128<=d.toNat:=by
 by_cases e:j=i
 .subst e;rw[h]at hj;cases hj;exact hc
 have hjl:=zYa hj;have e2:s[j]=d:=by rw[List.getElem?_eq_getElem hjl]at hj;exact Option.some.inj hj
 have:=k9b (strB s) i (j - i) (by omega) (by unfold jOa at h2;omega);rw[show i+(j - i)=j by omega,w0b s j hjl,e2]at this;omega
theorem toU8_nat(c:UInt8):toU8 (c.toNat:Int)=c:=by
 unfold toU8;have:=c.toNat_lt;rw[show ((c.toNat:Int) % 256).toNat=c.toNat by omega];simp
theorem Jha{t:Str}(h:Jca t=true){c:UInt8}(hc:c∈t):c.toNat < 128:=by
 unfold Jca at h;rw[List.all_eq_true]at h;simpa using h c hc
theorem vEb{r:Int}(h:128<=r):∃m x,1<=m/\m<=3/\(yja r).length=m+1/\(yja r)[m]? =some x/\128<=x.toNat:=by
 unfold yja;simp only[Utf8.encode];have hc:128<=(if Utf8.valid r=true then r.toNat else Utf8.runeError):=by
  split
  .omega
  decide
 generalize (if Utf8.valid r=true then r.toNat else Utf8.runeError)=c at hc;have hb:∀n:Nat,128<=(UInt8.ofNat (128+n % 64)).toNat:=by
  intro n;rw[UInt8.toNat_ofNat'];have:(128+n % 64) % 2 ^ 8=128+n % 64:=Nat.mod_eq_of_lt (by omega);rw[this];omega
 rw[if_neg (by omega)];split
 .exact ⟨1,_,by omega,by omega,rfl,rfl,hb c⟩
 split
 .exact ⟨2,_,by omega,by omega,rfl,rfl,hb c⟩
 exact ⟨3,_,by omega,by omega,rfl,rfl,hb c⟩
theorem YDa{t:Str}(h:∀c∈t,c.toNat < 128){x:UInt8}(hx:128<=x.toNat):Lib.indexByte t x= -1:=by
 have hc:=Lib.contains_iff_indexByte t x;have hn:t.contains x=false:=by
  rw[Bool.eq_false_iff];intro hm;have:=h x (by simpa using hm);omega
 rw[hn]at hc;have hge:=Lib.indexByte_ge t x;have:=of_decide_eq_false hc.symm;omega
theorem WZa(t:Str)(c:UInt8)(hc:c.toNat < 128):kHa t (c.toNat:Int)=some (Lib.indexByte t c):=by
 unfold kHa;have h1:decide ((0:Int)<=(c.toNat:Int))=true:=by simp
 have h2:decide ((c.toNat:Int) < 128)=true:=by simp;omega
 rw[h1,h2];simp only[cond_true,Option.bind_some,toU8_nat];rfl
theorem YEa(t:Str)(r:Int)(hr:128<=r)(ht:∀c∈t,c.toNat < 128)(hl:t.length<=4294967281):kHa t r=some (-1):=by
 unfold kHa;have h1:decide ((0:Int)<=r)=true:=by simp;omega
 have h2:decide (r < 128)=false:=by simp;omega
 rw[h1,h2];simp only[cond_true,cond_false,Option.bind_some];cases hq:r==65533 with
 | true=>
  simp only[cond_true];obtain ⟨o,ho,rfl⟩:=J0a (body:=qSa t) (fun i=>i<=t.length) (fun i=>t.length - i) (fun _ o=>o=.inl ()) (fun i hi=>by
   unfold qSa;by_cases hlt:i < t.length
   .right;have hg:t[i]? =some t[i]:=List.getElem?_eq_getElem hlt;have hc:=ht t[i] (List.getElem_mem hlt);obtain ⟨e1,e2⟩:=Jga hg hc;rw[e1,e2,decide_eq_true hlt];have hne:((t[i].toNat:Int)==65533)=false:=by rw[beq_eq_false_iff_ne];omega
    rw[hne];exact ⟨i+1,rfl,by omega,by omega,fun _ h=>h⟩
   left;rw[decide_eq_false hlt];exact ⟨.inl (),rfl,rfl⟩) 0 (Nat.zero_le _)
  rw[ho];rfl
 | false=>
  simp only[cond_false];have hv:∃b,kTa r=some b:=by
   unfold kTa;cases decide (0<=r) <;> cases decide (r < 55296) <;> cases decide (57343 < r) <;> cases decide (r<=1114111) <;> exact ⟨_,rfl⟩
  obtain ⟨b,hb⟩:=hv;rw[hb];simp only[Option.bind_some];cases b with
  | false=>rfl
  | true=>
   simp only[Bool.not_true,cond_false];obtain ⟨m,x,hm1,hm3,hlen,hx,hx128⟩:=vEb hr;have hst:w64 (((yja r).length:Int) - 1)=(m:Int):=by rw[hlen,q7a (by omega) (by omega)];omega
   rw[hst];have hbody:∃o,qUa t r (m:Int)=some (.out o)/\(o=.inl ()∨o=.inr (-1)):=by
    unfold qUa;by_cases hlt:m < t.length
    .have hd:decide ((m:Int) < (t.length:Int))=true:=by simp;omega
     have hc:=ht t[m] (List.getElem_mem hlt);rw[hd,hst,Jea hlt,zwa hx];have hne:((t[m].toNat:Int) !=(x.toNat:Int))=true:=by simp;omega
     simp only[cond_true,Option.bind_some,hne];rw[show (m:Int)+1=((m+1:Nat):Int) by omega,YBa _ (by omega),ZBa (by omega)];simp only[Option.bind_some];have hib:kka (t.drop (m+1)) x=some (-1):=by
      show some (Lib.indexByte (t.drop (m+1)) x)=_;rw[YDa (fun c hc=>ht c (List.mem_of_mem_drop hc)) hx128]
     rw[hib];exact ⟨.inr (-1),rfl,.inr rfl⟩
    have hd:decide ((m:Int) < (t.length:Int))=false:=by simp;omega
    rw[hd];exact ⟨.inl (),rfl,.inl rfl⟩
   obtain ⟨o,ho,ho2⟩:=hbody;rw[zEa ho];rcases ho2 with rfl | rfl <;> rfl
theorem kab(s t:Str)(h8:s.length<=8)(h2:2<=t.length)(hl:t.length < 4294967281)(ht:Jca t=true):vZa s t=some (Lib.indexAny s t):=by
 have htc:∀c∈t,c.toNat < 128:=fun c hc=>Jha ht hc
 unfold vZa;have e1:(t==([]:Str))=false:=by rw[beq_eq_false_iff_ne];rintro rfl;simp at h2
 have e2:((t.length:Int)==1)=false:=by rw[beq_eq_false_iff_ne];omega
 have e3:z8a (s.length:Int)=some false:=by unfold z8a;simp;omega
 rw[e1,e2,e3];simp only[cond_false,Option.bind_some];obtain ⟨o,ho,ho2⟩:=J0a (body:=qVa s t) (fun i=>Lib.NoAny s t i) (fun i=>s.length - i) (fun _ o=>Sum.elim (fun _=>some (-1)) (fun b=>some b) o=some (Lib.indexAny s t)) (fun i hi=>by
  unfold qVa;by_cases hlt:i < s.length
  .have hg:s[i]? =some s[i]:=List.getElem?_eq_getElem hlt;rw[decide_eq_true hlt];simp only[cond_true];by_cases hc:s[i].toNat < 128
   .obtain ⟨q1,q2⟩:=Jga hg hc;rw[q1,q2,WZa t _ hc];simp only[Option.bind_some];have hcon:=Lib.contains_iff_indexByte t s[i];rw[<-hcon];cases hin:t.contains s[i] with
    | true=>
     left;exact ⟨.inr (i:Int),rfl,by rw[Lib.indexAny_hit hi hg hin];rfl⟩
    | false=>
     right;exact ⟨i+1,rfl,hi.succ hg hin,by omega,fun _ h=>h⟩
   have hc:128<=s[i].toNat:=by omega
   obtain ⟨q1,q2,q3⟩:=w1b hg hc;rw[YEa t _ q1 htc (by omega)];right;refine ⟨i+jOa s i,rfl,fun j b hj hb=>?_,by omega,fun _ h=>h⟩;by_cases hji:j < i
   .exact hi j b hji hb
   have:=w2b hg hc (by omega) hj hb;rw[Bool.eq_false_iff];intro hm;have:=htc b (by simpa using hm);omega
  left;rw[decide_eq_false hlt];refine ⟨.inl (),rfl,?_⟩;have hn:Lib.NoAny s t s.length:=fun j b hj hb=>hi j b (by omega) hb
  rw[Lib.indexAny_none hn];rfl) 0 (Lib.NoAny.zero s t)
 rw[ho];exact ho2
theorem kbb(t:Str):∀s:Str,decide (0<=Lib.indexAny s t)=s.any fun c=>t.contains c:=by
 intro s;induction s with
 | nil=>rfl
 | cons c s ih=>
  have hge:=Lib.indexAny_ge t s;rw[List.any_cons,<-ih,Lib.indexAny];cases t.contains c with
  | true=>simp
  | false=>
   simp only[Bool.false_eq_true,if_false,Bool.false_or];by_cases h:Lib.indexAny s t= -1
   .simp[h]
   have:(Lib.indexAny s t== -1)=false:=by simpa using h
   rw[this];simp only[Bool.false_eq_true,if_false];rw[Bool.eq_iff_iff];simp;omega
theorem ZQa(s t:Str)(hs:s.length<=1048576)(h2:2<=t.length)(hl:t.length<=1048576)(ht:Jca t=true):kFa s t=some (s.any fun c=>t.contains c):=by
 unfold kFa qxa;rw[if_pos ⟨by omega,by omega,h2,ht⟩];simp only[Option.bind_some,kbb]
def yFa(c:UInt8):Bool:=c==32 || c==9
theorem Jia(c:UInt8):wHa c=some (yFa c):=by
 unfold wHa yFa;rw[jna c 32 (by decide),jna c 9 (by decide)];cases c==32 <;> rfl
theorem K0a(c:UInt8):vLa c=some (yFa c):=by
 unfold vLa yFa;rw[jna c 32 (by decide),jna c 9 (by decide)];cases c==32 <;> rfl
def fnC(c:UInt8):Bool:=decide (33<=c) && decide (c<=126) && c !=58
def fnP(s:Str):Bool:=s !=([]:Str) && decide (s.length<=60) && s.all fnC
theorem dec60(s:Str):decide ((s.length:Int)<=60)=decide (s.length<=60):=by generalize s.length=n;rw[Bool.eq_iff_iff];simp;omega
theorem kcb(s:Str)(hs:s.length<=1048576):Z3a s=some (fnP s):=by
 have hloop:iter (yna s) 0=some ((kba (fun _ c=>if !fnC c then some () else none) 0 s).elim (.inl ()) .inr):=by
  refine z0a s _ (Sum.inl ()) Sum.inr ?_ ?_
  .unfold yna;rw[zQa];rfl
  intro i c hc;have hi:=zYa hc;unfold yna;rw[kfa hc,zwa hc];simp only[cond_true,Option.bind_some,WVa c 58 (by decide),ZDa 33 c (by decide),ZEa 126 c (by decide),sc i (by omega)];unfold fnC;cases decide ((33:UInt8)<=c) <;> cases decide (c<=126) <;> cases c !=58 <;> rfl
 unfold Z3a fnP;rw[hloop];simp only[Option.bind_some,KZa,Zwa,J4a,dec60];cases s !=([]:Str) <;> cases decide (s.length<=60) <;> cases s.all fnC <;> rfl
def endC(c:UInt8):Bool:=c==13 || c==10 || c==0
theorem kdb(s:Str)(hs:s.length<=1048576):Z4a s=some (s.any endC):=by
 unfold Z4a;rw[ZQa s _ hs (by decide) (by decide) (by decide)];simp only[Option.bind_some,Option.some.injEq]
 congr 1
 funext c;rw[Bool.eq_iff_iff];simp[endC,or_assoc]
def w3b(s:Str):Bool:=match s.head?,s.getLast? with | some a,some b=>yFa a || yFa b | _,_=>false
def valP(s:Str):Bool:= !(s.any endC) && !(w3b s)
theorem qHb(s:Str)(h:s≠ [])(hs:s.length<=1048576):∃a b,idx s 0=some a/\idx s (w64 ((s.length:Int) - 1))=some b/\s.head? =some a/\s.getLast? =some b:=by
 have hpos:=List.length_pos_iff.2 h;obtain ⟨a,r,rfl⟩:=List.exists_cons_of_ne_nil h;have e:w64 (((a::r).length:Int) - 1)=((r.length:Nat):Int):=by
  have hl:(a::r).length=r.length+1:=rfl;rw[q7a (by omega) (by omega)];omega
 refine ⟨a,(a::r).getLast h,rfl,?_,rfl,List.getLast?_eq_some_getLast h⟩;rw[e,Vwa,List.getLast_eq_getElem h,List.getElem?_eq_getElem (by simp)]
 congr 2
theorem J7a(s:Str)(hs:s.length<=1048576):jSa s=some (valP s):=by
 unfold jSa valP;rw[kdb s hs];simp only[Option.bind_some];by_cases hn:s=[]
 .subst hn;rfl
 obtain ⟨a,b,h1,h2,h3,h4⟩:=qHb s hn hs;have e:(s==([]:Str))=false:=by simpa using hn
 unfold w3b;rw[h1,h2,h3,h4,e];simp only[Option.bind_some,K0a,cond_false];cases s.any endC <;> cases yFa a <;> cases yFa b <;> rfl
def br(t:Str)(f i:Nat):Bool:=decide (1<=i) && decide (f<=i) && (match t[i]?,t[i - 1]? with | some a,some b=>yFa a && !yFa b | _,_=>false)
def VBa(t:Str)(f:Nat):Nat->Nat
 | 0=>0
 | i+1=>if br t f (i+1) then i+1 else VBa t f i
def J8a(t:Str)(f:Nat):Nat->Nat->Nat
 | 0,_=>0
 | n+1,i=>if br t f i then i else J8a t f n (i+1)
def cutP(t:Str)(f:Nat):Nat:=if VBa t f 78=0 then J8a t f (t.length - 79) 79 else VBa t f 78
def qab(t:Str)(f c:Nat):Prop:=(c=0/\∀j,br t f j=false)∨(br t f c=true/\((c<=78/\∀j,c < j->j<=78->br t f j=false)∨(78 < c/\∀j,j < c->br t f j=false)))
theorem w4b(t:Str)(f:Nat):br t f 0=false:=rfl
theorem qbb{t:Str}{f i:Nat}(h:br t f i=true):i < t.length/\1<=i/\f<=i:=by
 unfold br at h;simp only[Bool.and_eq_true,decide_eq_true_eq]at h;obtain ⟨⟨h1,h2⟩,h3⟩:=h;refine ⟨?_,h1,h2⟩;cases hi:t[i]? with
 | none=>rw[hi]at h3;simp at h3
 | some a=>exact zYa hi
theorem keb{t:Str}{f c d:Nat}(h:qab t f c)(k:qab t f d):c=d:=by
 rcases h with ⟨rfl,h⟩ | ⟨hc,h⟩ <;> rcases k with ⟨rfl,k⟩ | ⟨hd,k⟩
 .rfl
 .rw[h]at hd;cases hd
 .rw[k]at hc;cases hc
 rcases Nat.lt_trichotomy c d with hlt | heq | hgt
 .exfalso;rcases h with ⟨h1,h2⟩ | ⟨h1,h2⟩ <;> rcases k with ⟨k1,k2⟩ | ⟨k1,k2⟩
  .rw[h2 d hlt k1]at hd;cases hd
  .rw[k2 c hlt]at hc;cases hc
  .omega
  rw[k2 c hlt]at hc;cases hc
 .exact heq
 exfalso;rcases h with ⟨h1,h2⟩ | ⟨h1,h2⟩ <;> rcases k with ⟨k1,k2⟩ | ⟨k1,k2⟩
 .rw[k2 c hgt h1]at hc;cases hc
 .omega
 .rw[h2 d hgt]at hd;cases hd
 rw[h2 d hgt]at hd;cases hd
theorem vFb(t:Str)(f:Nat):∀n,(VBa t f n=0/\∀j,j<=n->br t f j=false)∨(br t f (VBa t f n)=true/\VBa t f n<=n/\∀j,VBa t f n < j->j<=n->br t f j=false):=by
 intro n;induction n with
 | zero=>left;exact ⟨rfl,fun j hj=>by
  obtain rfl:j=0:=by omega
  exact w4b t f⟩
 | succ n ih=>
  unfold VBa;by_cases h:br t f (n+1)=true
  .rw[if_pos h];right;exact ⟨h,Nat.le_refl _,fun j h1 h2=>by omega⟩
  rw[if_neg h];rcases ih with ⟨h1,h2⟩ | ⟨h1,h2,h3⟩
  .left;refine ⟨h1,fun j hj=>?_⟩;by_cases e:j=n+1
   .subst e;simpa using h
   exact h2 j (by omega)
  right;refine ⟨h1,by omega,fun j hj hjn=>?_⟩;by_cases e:j=n+1
  .subst e;simpa using h
  exact h3 j hj (by omega)
theorem vGb(t:Str)(f:Nat):∀n i,(J8a t f n i=0/\∀j,i<=j->j < i+n->br t f j=false)∨(br t f (J8a t f n i)=true/\i<=J8a t f n i/\∀j,i<=j->j < J8a t f n i->br t f j=false):=by
 intro n;induction n with
 | zero=>intro i;left;exact ⟨rfl,fun j h1 h2=>by omega⟩
 | succ n ih=>
  intro i;unfold J8a;by_cases h:br t f i=true
  .rw[if_pos h];right;exact ⟨h,Nat.le_refl _,fun j h1 h2=>by omega⟩
  rw[if_neg h];have hb:br t f i=false:=by simpa using h
  rcases ih (i+1) with ⟨h1,h2⟩ | ⟨h1,h2,h3⟩
  .left;refine ⟨h1,fun j hj hjn=>?_⟩;by_cases e:j=i
   .subst e;exact hb
   exact h2 j (by omega) (by omega)
  right;refine ⟨h1,by omega,fun j hj hjn=>?_⟩;by_cases e:j=i
  .subst e;exact hb
  exact h3 j (by omega) hjn
theorem w5b(t:Str)(f:Nat):qab t f (cutP t f):=by
 unfold cutP;rcases vFb t f 78 with ⟨h1,h2⟩ | ⟨h1,h2,h3⟩
 .rw[if_pos h1];rcases vGb t f (t.length - 79) 79 with ⟨k1,k2⟩ | ⟨k1,k2,k3⟩
  .left;refine ⟨k1,fun j=>?_⟩;by_cases hj:j<=78
   .exact h2 j hj
   cases hb:br t f j with
   | false=>rfl
   | true=>have:=(qbb hb).1;rw[k2 j (by omega) (by omega)]at hb;cases hb
  right;refine ⟨k1,.inr ⟨by omega,fun j hj=>?_⟩⟩;by_cases hj2:j<=78
  .exact h2 j hj2
  exact k3 j (by omega) hj
 have hne:VBa t f 78≠0:=by intro h;rw[h,w4b]at h1;cases h1
 rw[if_neg hne];exact .inr ⟨h1,.inl ⟨h2,h3⟩⟩
theorem KGa{t:Str}{f:Nat}(h:cutP t f≠0):1<=cutP t f/\cutP t f < t.length:=by
 rcases w5b t f with ⟨h1,_⟩ | ⟨h1,_⟩
 .exact absurd h1 h
 exact ⟨(qbb h1).2.1,(qbb h1).1⟩
theorem br_at{t:Str}{f i:Nat}(h1:1<=i)(hi:i < t.length):br t f i=(decide (f<=i) && (yFa t[i] && !yFa (t[i - 1]'(by omega)))):=by
 unfold br;rw[List.getElem?_eq_getElem hi,List.getElem?_eq_getElem (show i - 1 < t.length by omega)];simp[h1]
def PInv(t:Str)(f b i:Nat):Prop:=f<=i/\1<=i/\((b=0/\∀j,j < i->br t f j=false)∨(br t f b=true/\b < i/\((b<=78/\∀j,b < j->j < i->br t f j=false)∨(78 < b/\∀j,j < b->br t f j=false))))
theorem PInv.done{t:Str}{f b i:Nat}(h:PInv t f b i)(hi:0 < b/\78 < i∨t.length<=i):qab t f b:=by
 obtain ⟨hf,h1,h2⟩:=h;rcases h2 with ⟨rfl,h3⟩ | ⟨h3,h4,h5⟩
 .left;refine ⟨rfl,fun j=>?_⟩;cases hb:br t f j with
  | false=>rfl
  | true=>
   have:=(qbb hb).1;rw[h3 j (by omega)]at hb;cases hb
 right;refine ⟨h3,?_⟩;rcases h5 with ⟨h6,h7⟩ | h6
 .left;refine ⟨h6,fun j hj hj2=>?_⟩;cases hb:br t f j with
  | false=>rfl
  | true=>
   have:=(qbb hb).1;rw[h7 j hj (by omega)]at hb;cases hb
 exact .inr h6
theorem J9a(t:Str)(f:Nat)(ht:t.length<=4194304)(hf:f<=4194304):jTa t (f:Int)=some ((cutP t (max f 1):Nat):Int):=by
 unfold jTa;have hstart:max (f:Int) 1=((max f 1:Nat):Int):=by omega
 rw[hstart];obtain ⟨r,h1,b,rfl,h2⟩:=J0a (body:=yJa t) (fun s=>∃b i:Nat,s=((b:Int),(i:Int))/\PInv t (max f 1) b i/\i<=4194305) (fun s=>(4194306 - s.2).toNat) (fun _ r=>∃c:Nat,r=(c:Int)/\qab t (max f 1) c) (by
  rintro _ ⟨b,i,rfl,hI,hil⟩;have hi1:=hI.2.1;unfold yJa;dsimp only;by_cases hlt:i < t.length
  .have hd:decide ((i:Int) < (t.length:Int))=true:=by simp;omega
   have hpre:w64 ((i:Int) - 1)=((i - 1:Nat):Int):=by rw[q7a (by omega) (by omega)];omega
   rw[hd,Jea hlt,hpre,Jea (show i - 1 < t.length by omega)];have hb:=br_at (f:=max f 1) hi1 hlt;have hfi:decide (max f 1<=i)=true:=by simp only[decide_eq_true_eq];exact hI.1
   rw[hfi,Bool.true_and]at hb;simp only[cond_true,Option.bind_some,K0a];have next:∀b' :Nat,PInv t (max f 1) b' (i+1)->vaa ((b:Int),(i:Int)) (b' :Int)=some (.cont ((b' :Int),((i+1:Nat):Int))):=by
    intro b' _;unfold vaa;dsimp only;rw[sc i (by omega)]
   have hno:br t (max f 1) i=false->PInv t (max f 1) b (i+1):=by
    intro hnb;refine ⟨by have:=hI.1;omega,by omega,?_⟩;rcases hI.2.2 with ⟨q1,q2⟩ | ⟨q1,q2,q3⟩
    .left;refine ⟨q1,fun j hj=>?_⟩;by_cases e:j=i
     .subst e;exact hnb
     exact q2 j (by omega)
    right;refine ⟨q1,by omega,?_⟩;rcases q3 with ⟨q4,q5⟩ | q4
    .left;refine ⟨q4,fun j hj hj2=>?_⟩;by_cases e:j=i
     .subst e;exact hnb
     exact q5 j hj (by omega)
    exact .inr q4
   have goNo:br t (max f 1) i=false->(∃s',vaa ((b:Int),(i:Int)) (b:Int)=some (.cont s')/\(∃b i:Nat,s' =((b:Int),(i:Int))/\PInv t (max f 1) b i/\i<=4194305)/\(4194306 - s'.2).toNat < (4194306 - ((i:Int))).toNat/\∀r:Int,(∃c:Nat,r=(c:Int)/\qab t (max f 1) c)->∃c:Nat,r=(c:Int)/\qab t (max f 1) c):=by
    intro hnb;exact ⟨_,next b (hno hnb),⟨b,i+1,rfl,hno hnb,by omega⟩,by dsimp only;omega,fun _ h=>h⟩
   cases ha:yFa t[i] with
   | false=>
    rw[ha]at hb;simp only[Bool.not_false,cond_true,Option.bind_some];exact .inr (goNo hb)
   | true=>
    rw[ha]at hb;simp only[Bool.not_true,cond_false,Option.bind_some];cases hp:yFa t[i - 1] with
    | true=>
     rw[hp]at hb;simp only[cond_true];exact .inr (goNo hb)
    | false=>
     rw[hp]at hb;have hb:br t (max f 1) i=true:=hb;simp only[cond_false];by_cases hb0:0 < b/\78 < i
     .left;have e1:decide ((0:Int) < (b:Int))=true:=by simp;omega
      have e2:decide ((78:Int) < (i:Int))=true:=by simp;omega
      rw[e1,e2];exact ⟨(b:Int),rfl,b,rfl,hI.done (.inl hb0)⟩
     right;have e:(bif decide ((0:Int) < (b:Int)) then some (decide ((78:Int) < (i:Int))) else some false)=some false:=by
      by_cases h0:0 < b
      .have e1:decide ((0:Int) < (b:Int))=true:=by simp;omega
       have e2:decide ((78:Int) < (i:Int))=false:=by simp;omega
       rw[e1,e2];rfl
      have e1:decide ((0:Int) < (b:Int))=false:=by simp;omega
      rw[e1];rfl
     rw[e];simp only[Option.bind_some,cond_false];have hnew:PInv t (max f 1) i (i+1):=by
      refine ⟨by have:=hI.1;omega,by omega,.inr ⟨hb,by omega,?_⟩⟩;by_cases h78:i<=78
      .exact .inl ⟨h78,fun j h1 h2=>by omega⟩
      right;refine ⟨by omega,?_⟩;rcases hI.2.2 with ⟨q1,q2⟩ | ⟨q1,q2,q3⟩
      .exact q2
      exfalso;have:=(qbb q1).2.1;omega
     exact ⟨_,next i hnew,⟨i,i+1,rfl,hnew,by omega⟩,by dsimp only;omega,fun _ h=>h⟩
  left;have hd:decide ((i:Int) < (t.length:Int))=false:=by simp;omega
  rw[hd];exact ⟨(b:Int),rfl,b,rfl,hI.done (.inr (by omega))⟩) ((0:Int),((max f 1:Nat):Int)) ⟨0,max f 1,rfl,⟨Nat.le_refl _,by omega,.inl ⟨rfl,fun j hj=>by
  cases hb:br t (max f 1) j with
  | false=>rfl
  | true=>have:=(qbb hb).2.2;omega⟩⟩,by omega⟩
 rw[h1];simp only[Option.bind_some];rw[keb h2 (w5b t (max f 1))]
theorem R_cut_eq(t:Str)(f:Nat)(out:List Str)(ht:t.length<=4194304)(h78:78 < t.length)(hf:f<=4194304)(h1f:1<=f):((iter (k6a (t,(f:Int),out)) (0,78)).bind fun b10=>iter (kLa (t,(f:Int),out)) (b10,79))=some ((cutP t f:Nat):Int):=by
 have test:∀i:Nat,1<=i->i < t.length->((bif decide ((f:Int)<=(i:Int)) then (idx t (i:Int)).bind fun v18=>(wHa v18).bind fun v20=>(bif v20 then (idx t ((w64 ((i:Int) - 1)))).bind fun v23=>(wHa v23).bind fun v25=>some ((!v25)) else some false) else some false):Option Bool)=some (br t f i):=by
  intro i h1 h2;have hpre:w64 ((i:Int) - 1)=((i - 1:Nat):Int):=by rw[q7a (by omega) (by omega)];omega
  rw[br_at h1 h2,Jea h2,hpre,Jea (show i - 1 < t.length by omega)];have e:decide ((f:Int)<=(i:Int))=decide (f<=i):=by rw[Bool.eq_iff_iff];simp
  rw[e];simp only[Option.bind_some,Jia];cases decide (f<=i) <;> cases yFa t[i] <;> rfl
 have hdn:∀i:Nat,i<=78->iter (k6a (t,(f:Int),out)) (0,(i:Int))=some ((VBa t f i:Nat):Int):=by
  intro i;induction i with
  | zero=>intro _;exact zEa (by unfold k6a;rfl)
  | succ i ih=>
   intro hi;have hb:k6a (t,(f:Int),out) (0,((i+1:Nat):Int))=some (.cont ((bif br t f (i+1) then ((i+1:Nat):Int) else 0),(i:Int))):=by
    unfold k6a;dsimp only;have e1:decide ((0:Int) < ((i+1:Nat):Int))=true:=by rw[decide_eq_true_eq];omega
    have e2:w64 (((i+1:Nat):Int) - 1)=(i:Int):=by rw[q7a (by omega) (by omega)];omega
    rw[test (i+1) (by omega) (by omega),e1,e2];simp only[beq_self_eq_true,cond_true,Option.bind_some];cases br t f (i+1) <;> rfl
   rw[zTa hb];unfold VBa;cases hq:br t f (i+1) with
   | false=>simpa using ih (by omega)
   | true=>
    simp only[cond_true,if_true];refine zEa ?_;unfold k6a;dsimp only;have e3:((((i+1:Nat):Int))==0)=false:=by rw[beq_eq_false_iff_ne];omega
    rw[e3];cases decide ((0:Int) < (i:Int)) <;> rfl
 have h1:=hdn 78 (by omega);have e78:((78:Nat):Int)=78:=rfl;rw[e78]at h1;rw[h1];simp only[Option.bind_some];have hout:∀(c i:Nat),c≠0->iter (kLa (t,(f:Int),out)) ((c:Int),(i:Int))=some ((c:Nat):Int):=by
  intro c i hc;refine zEa ?_;unfold kLa;dsimp only;have e3:((c:Int)==0)=false:=by rw[beq_eq_false_iff_ne];omega
  rw[e3];cases decide ((i:Int) < (t.length:Int)) <;> rfl
 have hup:∀n i:Nat,i+n=t.length->1<=i->iter (kLa (t,(f:Int),out)) (0,(i:Int))=some ((J8a t f n i:Nat):Int):=by
  intro n;induction n with
  | zero=>
   intro i hi _;refine zEa ?_;unfold kLa;dsimp only;have:decide ((i:Int) < (t.length:Int))=false:=by rw[decide_eq_false_iff_not];omega
   rw[this];rfl
  | succ n ih=>
   intro i hi h1i;have hb:kLa (t,(f:Int),out) (0,(i:Int))=some (.cont ((bif br t f i then (i:Int) else 0),((i+1:Nat):Int))):=by
    unfold kLa;dsimp only;have e1:decide ((i:Int) < (t.length:Int))=true:=by simp;omega
    rw[test i h1i (by omega),e1,sc i (by omega)];simp only[beq_self_eq_true,cond_true,Option.bind_some];cases br t f i <;> rfl
   rw[zTa hb];unfold J8a;cases hq:br t f i with
   | false=>simpa using ih (i+1) (by omega) (by omega)
   | true=>
    simp only[cond_true,if_true];exact hout i (i+1) (by omega)
 unfold cutP;have e79:((79:Nat):Int)=79:=rfl;by_cases h0:VBa t f 78=0
 .rw[if_pos h0,h0];have:=hup (t.length - 79) 79 (by omega) (by omega);rw[e79]at this;exact this
 rw[if_neg h0];have:=hout (VBa t f 78) 79 h0;rw[e79]at this;exact this
def QUa:Nat->Str->Nat->List Str
 | 0,t,_=>[t]
 | n+1,t,f=>if 78 < t.length then (if cutP t f=0 then [t] else t.take (cutP t f)::QUa n (t.drop (cutP t f)) 1) else [t]
theorem zab:∀(n m:Nat) (t:Str) (f:Nat),t.length<=n->t.length<=m->QUa n t f=QUa m t f:=by
 intro n;induction n with
 | zero=>
  intro m t f h1 h2;cases m with
  | zero=>rfl
  | succ m=>unfold QUa;rw[if_neg (by omega)]
 | succ n ih=>
  intro m t f h1 h2;cases m with
  | zero=>unfold QUa;rw[if_neg (by omega)]
  | succ m=>
   unfold QUa;split
   .split
    .rfl
    rename_i hc;have:=KGa hc;rw[ih m _ 1 (by simp;omega) (by simp;omega)]
   rfl
def jda(t:Str)(f:Nat):List Str:=QUa t.length t f
theorem VUa{t:Str}{f:Nat}(h:78 < t.length)(hc:cutP t f≠0):jda t f=t.take (cutP t f)::jda (t.drop (cutP t f)) 1:=by
 unfold jda;obtain ⟨n,hn⟩:∃n,t.length=n+1:=⟨t.length - 1,by omega⟩;have hp:=KGa hc;rw[hn,QUa,if_pos h,if_neg hc];rw[zab n (t.drop (cutP t f)).length _ 1 (by simp;omega) (Nat.le_refl _)]
theorem w9a{t:Str}{f:Nat}(h:¬78 < t.length∨cutP t f=0):jda t f=[t]:=by
 unfold jda;cases hn:t.length with
 | zero=>rfl
 | succ n=>
  rw[QUa];rcases h with h | h
  .rw[if_neg h]
  split
  .rfl
  rfl
theorem VVa:∀(n:Nat) (t:Str) (f:Nat),t.length<=n->(jda t f).flatten=t/\(jda t f).length<=t.length+1:=by
 intro n;induction n with
 | zero=>intro t f h;rw[w9a (.inl (by omega))];simp
 | succ n ih=>
  intro t f h;by_cases h78:78 < t.length
  .by_cases hc:cutP t f=0
   .rw[w9a (.inr hc)];simp
   have hp:=KGa hc;rw[VUa h78 hc];obtain ⟨h1,h2⟩:=ih (t.drop (cutP t f)) 1 (by simp;omega);rw[List.flatten_cons,h1];refine ⟨by simp,?_⟩;simp only[List.length_cons,List.length_drop]at h2 ⊢;omega
  rw[w9a (.inl h78)];simp
theorem Jja{body:Str × Int × List Str->Option (Step (Str × Int × List Str) (Str × List Str))}(enc:Nat->Int)(g:Nat)
 (h:∀(t:Str) (f:Nat) (out:List Str),t.length<=4194304->out.length<=4194305->f<=4194304->body (t,enc f,out)=some (if 78 < t.length then (if cutP t (max f 1)=0 then .out (t,out) else .cont (t.drop (cutP t (max f 1)),enc g,out++ [t.take (cutP t (max f 1))])) else .out (t,out))) (h0:max g 1=1):
 ∀(n:Nat) (t:Str) (f:Nat) (out:List Str),t.length<=n->t.length<=4194304->out.length+t.length<=4194305->f<=4194304->∃last init,iter body (t,enc f,out)=some (last,init)/\init++ [last]=out++jda t (max f 1):=by
 intro n;induction n with
 | zero=>
  intro t f out h1 h2 h3 h4;have hb:=h t f out h2 (by omega) h4;rw[if_neg (by omega)]at hb;exact ⟨t,out,zEa hb,by rw[w9a (.inl (by omega))]⟩
 | succ n ih=>
  intro t f out h1 h2 h3 h4;have hb:=h t f out h2 (by omega) h4;by_cases h78:78 < t.length
  .rw[if_pos h78]at hb;by_cases hc:cutP t (max f 1)=0
   .rw[if_pos hc]at hb;exact ⟨t,out,zEa hb,by rw[w9a (.inr hc)]⟩
   rw[if_neg hc]at hb;have hp:=KGa hc;obtain ⟨last,init,q1,q2⟩:=ih (t.drop (cutP t (max f 1))) g (out++ [t.take (cutP t (max f 1))]) (by simp;omega) (by simp;omega) (by simp;omega) (by omega);refine ⟨last,init,(zTa hb).trans q1,?_⟩;rw[q2,h0,VUa h78 hc];simp
  rw[if_neg h78]at hb;exact ⟨t,out,zEa hb,by rw[w9a (.inl h78)]⟩
def txt(n v:Str):Str:=n++ [58,32]++v
def flP(n v:Str):List Str:=jda (txt n v) (n.length+2)
theorem w6b(t:Str)(f:Nat)(ht:t.length<=4194304)(hf:f<=4194304):∃last init,iter yoa (t,(f:Int),([]:List Str))=some (last,init)/\init++ [last]=jda t (max f 1):=by
 have:=Jja (body:=yoa) (fun n=>(n:Int)) 0 (fun t f out h1 h2 h3=>by
  unfold yoa;dsimp only;by_cases h78:78 < t.length
  .have hd:decide ((78:Int) < (t.length:Int))=true:=by rw[decide_eq_true_eq];omega
   rw[hd,if_pos h78,J9a t f h1 h3];simp only[cond_true,Option.bind_some];by_cases hc:cutP t (max f 1)=0
   .rw[if_pos hc,hc];rfl
   have hp:=KGa hc;have e:(((cutP t (max f 1):Nat):Int)==0)=false:=by rw[beq_eq_false_iff_ne];omega
   rw[if_neg hc,e,KXa (by omega),ZBa (by omega)];simp only[cond_false,Option.bind_some];rw[qva (by simp;omega)];rfl
  have hd:decide ((78:Int) < (t.length:Int))=false:=by rw[decide_eq_false_iff_not];omega
  rw[hd,if_neg h78];rfl) (by decide) t.length t f [] (Nat.le_refl _) ht (by simp;omega) hf
 simpa using this
theorem ref_loop(t:Str)(f:Nat)(ht:t.length<=4194304)(hf:f<=4194304)(h1f:1<=f):∃last init,iter vNa (t,(f:Int),([]:List Str))=some (last,init)/\init++ [last]=jda t f:=by
 have:=Jja (body:=vNa) (fun n=>((max n 1:Nat):Int)) 1 (fun t f out h1 h2 h3=>by
  unfold vNa;dsimp only;by_cases h78:78 < t.length
  .have hd:decide ((78:Int) < (t.length:Int))=true:=by rw[decide_eq_true_eq];omega
   have hc0:=R_cut_eq t (max f 1) out h1 h78 (by omega) (by omega);obtain ⟨b10,hb10,hc1⟩:=Option.bind_eq_some_iff.1 hc0;rw[hd,if_pos h78,hb10];simp only[cond_true,Option.bind_some];rw[hc1];simp only[Option.bind_some];by_cases hc:cutP t (max f 1)=0
   .rw[if_pos hc,hc];rfl
   have hp:=KGa hc;have e:(((cutP t (max f 1):Nat):Int)==0)=false:=by rw[beq_eq_false_iff_ne];omega
   rw[if_neg hc,e,KXa (by omega),ZBa (by omega)];simp only[cond_false,Option.bind_some];rw[qva (by simp;omega)];rfl
  have hd:decide ((78:Int) < (t.length:Int))=false:=by rw[decide_eq_false_iff_not];omega
  rw[hd,if_neg h78];rfl) (by decide) t.length t f [] (Nat.le_refl _) ht (by simp;omega) hf
 have e:max f 1=f:=by omega
 rw[e]at this;simpa using this
theorem w7b(n v:Str)(hn:n.length<=1048576)(hv:v.length<=1048576):cat n [58,32]=some (n++ [58,32])/\cat (n++ [58,32]) v=some (txt n v)/\w64 ((n.length:Int)+2)=((n.length+2:Nat):Int):=by
 refine ⟨cat_ok (by simp;omega),cat_ok (by simp;omega),?_⟩;rw[q7a (by omega) (by omega)];omega
theorem qcb(n v:Str):(txt n v).length=n.length+2+v.length:=by unfold txt;simp;omega
theorem Kca(n v:Str)(hn:n.length<=1048576)(hv:v.length<=1048576):wta n v=some (flP n v):=by
 obtain ⟨h1,h2,h3⟩:=w7b n v hn hv;have hl:=qcb n v;obtain ⟨last,init,q1,q2⟩:=ref_loop (txt n v) (n.length+2) (by omega) (by omega) (by omega);unfold wta flP;rw[h1];simp only[Option.bind_some];rw[h2];simp only[Option.bind_some];rw[h3,q1];simp only[Option.bind_some];have hj:=(VVa (txt n v).length (txt n v) (n.length+2) (Nat.le_refl _)).2;rw[<-q2]at hj;simp at hj;rw[qva (by simp;omega),q2];rfl
def W0a(i:Nat)(l:Str):Option Int:=if 998 < l.length then some (i:Int) else none
def qdb(n v:Str):List Str × zqa:=
 if !fnP n then ([],⟨10, -1⟩) else if 4000 < v.length then ([],⟨1, -1⟩) else if !valP v then ([],⟨11, -1⟩) else match kba W0a 0 (flP n v) with | some i=>([],⟨1,i⟩) | none=>(flP n v,⟨0,0⟩)
theorem qIb(n v:Str):(flP n v).length<=n.length+v.length+3:=by
 have:=(VVa (txt n v).length (txt n v) (n.length+2) (Nat.le_refl _)).2;have hl:=qcb n v;unfold flP;omega
theorem dec998(l:Str):decide ((998:Int) < (l.length:Int))=decide (998 < l.length):=by generalize l.length=n;rw[Bool.eq_iff_iff];simp;omega
theorem VWa(n v:Str)(hn:n.length<=1048576)(hv:v.length<=1048576):jUa n v=some (qdb n v):=by
 obtain ⟨h1,h2,h3⟩:=w7b n v hn hv;have hl:=qcb n v;obtain ⟨last,init,q1,q2⟩:=w6b (txt n v) (n.length+2) (by omega) (by omega);rw[show max (n.length+2) 1=n.length+2 by omega]at q2;unfold jUa qdb;rw[kcb n hn,J7a v hv];simp only[Option.bind_some,zMa,kEa];cases fnP n with
 | false=>rfl
 | true=>
  simp only[Bool.not_true,cond_false,Bool.false_eq_true,if_false];by_cases h4:4000 < v.length
  .have hd:decide ((4000:Int) < (v.length:Int))=true:=by rw[decide_eq_true_eq];omega
   rw[hd,if_pos h4];rfl
  have hd:decide ((4000:Int) < (v.length:Int))=false:=by rw[decide_eq_false_iff_not];omega
  rw[hd,if_neg h4];simp only[cond_false];cases valP v with
  | false=>rfl
  | true=>
   simp only[Bool.not_true,cond_false,Bool.false_eq_true,if_false];rw[h1];simp only[Option.bind_some];rw[h2];simp only[Option.bind_some];rw[h3,q1];simp only[Option.bind_some];have hj:=qIb n v;have hfl:flP n v=init++ [last]:=q2.symm;have hj2:=hj;rw[hfl]at hj2;simp at hj2;rw[qva (by simp;omega),<-hfl];simp only[Option.bind_some];rw[z0a (flP n v) (fun i l=>(W0a i l).map fun k=>(([]:List Str),(⟨1,k⟩:zqa))) (.inl ()) .inr]
   .simp only[Option.bind_some];have hm:∀(l:List Str) (i:Nat),kba (fun i l=>(W0a i l).map fun k=>(([]:List Str),(⟨1,k⟩:zqa))) i l=(kba W0a i l).map fun k=>(([]:List Str),(⟨1,k⟩:zqa)):=by
     intro l;induction l with
     | nil=>intro i;rfl
     | cons x l ih=>intro i;unfold kba;rw[ih];cases W0a i x <;> rfl
    rw[hm];cases kba W0a 0 (flP n v) <;> rfl
   .unfold jwa;rw[zQa];rfl
   intro i l hli;have hi:=zYa hli;unfold jwa W0a;rw[kfa hli,zwa hli];simp only[cond_true,Option.bind_some,dec998,zMa,sc i (by omega)];by_cases h9:998 < l.length
   .simp[h9]
   simp[h9]
def Qfa(f:zea):Int:=(qdb f.Name f.Value).2.Code
def qeb(l:List Str):Bool:=l.any fun s=>decide (998 < s.length)
theorem Jka(l:List Str):∀n,(kba W0a n l).isSome=qeb l:=by
 induction l with
 | nil=>intro n;rfl
 | cons x l ih=>
  intro n;unfold kba qeb W0a;by_cases h:998 < x.length
  .simp[h]
  simp only[h,if_false,List.any_cons,decide_false,Bool.false_or];exact ih (n+1)
def codeQ(n v:Str):Int:=if !fnP n then 10 else if 4000 < v.length then 1 else if !valP v then 11 else if qeb (flP n v) then 1 else 0
theorem qJb(f:zea):Qfa f=codeQ f.Name f.Value:=by
 unfold Qfa qdb codeQ;rw[<-Jka (flP f.Name f.Value) 0];split
 .rfl
 split
 .rfl
 split
 .rfl
 cases kba W0a 0 (flP f.Name f.Value) <;> rfl
theorem R_In_60(s:Str):R_In (s.length:Int) 1 60=some (s !=([]:Str) && decide (s.length<=60)):=by
 rw[vSa];cases s with
 | nil=>rfl
 | cons c s=>
  have h:decide ((1:Int)<=((c::s).length:Int))=true:=by rw[decide_eq_true_eq];simp;omega
  rw[h,dec60];rfl
theorem elim_int(c:Int)(o:Option Unit)(f:Unit->Option Int):Sum.elim f (fun b=>some b) (o.elim (Sum.inl ()) (fun _=>Sum.inr c):Unit ⊕ Int)=bif o.isSome then some c else f ():=by cases o <;> rfl
theorem YFa(f:zea)(hn:f.Name.length<=1048576)(hv:f.Value.length<=1048576):y8a f=some (Qfa f):=by
 rw[qJb];unfold y8a;have hl1:iter (wca f) 0=some ((kba (fun _ c=>if !fnC c then some () else none) 0 f.Name).elim (.inl ()) fun _=>.inr 10):=by
  refine z0a f.Name _ (Sum.inl ()) (fun _=>Sum.inr 10) ?_ ?_
  .unfold wca;rw[zQa];rfl
  intro i c hc;have hi:=zYa hc;unfold wca;rw[kfa hc,zwa hc];simp only[cond_true,Option.bind_some,vSa,jna c 58 (by decide),ZDa 33 c (by decide),ZEa 126 c (by decide),sc i (by omega)];unfold fnC bne;cases decide ((33:UInt8)<=c) <;> cases decide (c<=126) <;> cases c==58 <;> rfl
 have hl2:iter (wda f) 0=some ((kba (fun _ c=>if endC c then some () else none) 0 f.Value).elim (.inl ()) fun _=>.inr 11):=by
  refine z0a f.Value _ (Sum.inl ()) (fun _=>Sum.inr 11) ?_ ?_
  .unfold wda;rw[zQa];rfl
  intro i c hc;have hi:=zYa hc;unfold wda;rw[kfa hc,zwa hc];simp only[cond_true,Option.bind_some,jna c 0 (by decide),jna c 10 (by decide),jna c 13 (by decide),sc i (by omega)];unfold endC;cases c==0 <;> cases c==10 <;> cases c==13 <;> rfl
 have hl3:∀l:List Str,l.length<=4194304->iter (wea l) 0=some ((kba (fun _ c=>if decide (998 < c.length) then some () else none) 0 l).elim (.inl ()) fun _=>.inr 1):=by
  intro l hl;refine z0a l _ (Sum.inl ()) (fun _=>Sum.inr 1) ?_ ?_
  .unfold wea;rw[zQa];rfl
  intro i c hc;have hi:=zYa hc;unfold wea;rw[kfa hc,zwa hc];simp only[cond_true,Option.bind_some,dec998,sc i (by omega)];cases decide (998 < c.length) <;> rfl
 have hfl:=qIb f.Name f.Value;rw[hl1];simp only[Option.bind_some,elim_int,Zwa,J4a,R_In_60,hl2,Kca _ _ hn hv,hl3 _ (show (flP f.Name f.Value).length<=4194304 by omega)];have h4:decide ((4000:Int) < (f.Value.length:Int))=decide (4000 < f.Value.length):=by generalize f.Value.length=n;rw[Bool.eq_iff_iff];simp;omega
 have he:(bif decide ((0:Int) < (f.Value.length:Int)) then (idx f.Value 0).bind fun v38=>(wHa v38).bind fun v40=>(bif v40 then some true else (idx f.Value ((w64 ((f.Value.length:Int) - 1)))).bind fun v43=>(wHa v43).bind fun v45=>some v45) else some false)=some (w3b f.Value):=by
  by_cases hn0:f.Value=[]
  .rw[hn0];rfl
  obtain ⟨a,b,h1,h2,h3,h4⟩:=qHb f.Value hn0 hv;have hp:=List.length_pos_iff.2 hn0;have hd:decide ((0:Int) < (f.Value.length:Int))=true:=by rw[decide_eq_true_eq];omega
  unfold w3b;rw[h1,h2,h3,h4,hd];simp only[Option.bind_some,Jia,cond_true];cases yFa a <;> rfl
 rw[he,h4];simp only[Option.bind_some];unfold codeQ fnP valP qeb;cases f.Name.all fnC <;> cases (f.Name !=([]:Str)) <;> cases decide (f.Name.length<=60) <;> (try rfl)
 simp only[Bool.and_true,Bool.not_true,Bool.false_eq_true,if_false,cond_false];by_cases h4000:4000 < f.Value.length
 .simp[h4000]
 simp only[h4000,decide_false,cond_false,if_false];cases f.Value.any endC <;> cases w3b f.Value <;> (try rfl)
 simp only[Bool.not_false,Bool.and_true,Bool.not_true,Bool.false_eq_true,if_false,cond_false];cases (flP f.Name f.Value).any fun s=>decide (998 < s.length) <;> rfl
def smallF(l:List zea):Prop:=l.length<=1048576/\∀f∈l,f.Name.length<=1048576/\f.Value.length<=1048576
def Kda(i:Nat)(f:zea):Option zqa:=if Qfa f !=0 then some ⟨Qfa f,i⟩ else none
def Qga(l:List zea):zqa:=if 60 < l.length then ⟨2, -1⟩ else (kba Kda 0 l).getD ⟨0,0⟩
theorem dec60f(l:List zea):decide ((60:Int) < (l.length:Int))=decide (60 < l.length):=by generalize l.length=n;rw[Bool.eq_iff_iff];simp;omega
theorem QVa(l:List zea)(h:smallF l):vMa l=some (Qga l):=by
 obtain ⟨h1,h2⟩:=h;unfold vMa Qga;rw[z0a l Kda (.inl ()) .inr]
 .simp only[Option.bind_some,zMa,kEa,VAa,dec60f];by_cases h6:60 < l.length <;> simp[h6]
 .unfold vza;rw[zQa];rfl
 intro i f hf;have hi:=zYa hf;obtain ⟨hn,hv⟩:=h2 f (List.mem_of_getElem? hf);unfold vza Kda;rw[kfa hf,zwa hf];simp only[cond_true,Option.bind_some,VWa _ _ hn hv,z6a,zMa,sc i (by omega)];show (bif Qfa f !=0 then _ else _)=_;cases Qfa f !=0 <;> rfl
theorem VCa(l:List zea)(h:(Qga l).Code=0):¬60 < l.length/\kba Kda 0 l=none/\∀f∈l,Qfa f=0:=by
 unfold Qga at h;by_cases h6:60 < l.length
 .rw[if_pos h6]at h;simp at h
 rw[if_neg h6]at h;cases hq:kba Kda 0 l with
 | some y=>
  rw[hq]at h;obtain ⟨i,f,h1,h2⟩:=Zva hq;unfold Kda at h2;exfalso;by_cases hc:Qfa f=0
  .simp[hc]at h2
  have:(Qfa f !=0)=true:=by simpa using hc
  rw[this]at h2;simp at h2;subst h2;exact hc h
 | none=>
  refine ⟨h6,rfl,fun f hf=>?_⟩;obtain ⟨i,hi⟩:=List.getElem?_of_mem hf;have:=vka.1 hq i f hi;unfold Kda at this;simpa using this
theorem qKb{f:zea}(h:Qfa f=0):f.Name.length<=60/\f.Value.length<=4000/\qdb f.Name f.Value=(flP f.Name f.Value,⟨0,0⟩)/\∀l∈flP f.Name f.Value,l.length<=998:=by
 have h0:=h;rw[qJb]at h;unfold codeQ at h;have h1:fnP f.Name=true:=by cases hx:fnP f.Name with
  | true=>rfl
  | false=>rw[hx]at h;simp at h
 rw[h1]at h;simp only[Bool.not_true,Bool.false_eq_true,if_false]at h;have h2:¬4000 < f.Value.length:=by intro hx;rw[if_pos hx]at h;simp at h
 rw[if_neg h2]at h;have h3:valP f.Value=true:=by cases hx:valP f.Value with
  | true=>rfl
  | false=>rw[hx]at h;simp at h
 rw[h3]at h;simp only[Bool.not_true,Bool.false_eq_true,if_false]at h;have h4:qeb (flP f.Name f.Value)=false:=by cases hx:qeb (flP f.Name f.Value) with
  | false=>rfl
  | true=>rw[hx]at h;simp at h
 refine ⟨?_,by omega,?_,?_⟩
 .unfold fnP at h1;simp only[Bool.and_eq_true,decide_eq_true_eq]at h1;exact h1.1.2
 .unfold qdb;rw[h1,h3];simp only[Bool.not_true,Bool.false_eq_true,if_false,if_neg h2];have:=Jka (flP f.Name f.Value) 0;rw[h4]at this;cases hx:kba W0a 0 (flP f.Name f.Value) with
  | none=>rfl
  | some y=>rw[hx]at this;cases this
 intro l hl;unfold qeb at h4;rw[List.any_eq_false]at h4;have:=h4 l hl;simp at this;omega
def addL(a:List UInt8)(l:Str):List UInt8:=a++l++ [13,10]
def addF(a:List UInt8)(f:zea):List UInt8:=(flP f.Name f.Value).foldl addL a
def jea(m:zxa):List UInt8:=m.Fields.foldl addF []++ [13,10]++m.Body
theorem qLb(l:List Str)(acc:List UInt8)(hl:l.length<=5000)(h9:∀s∈l,s.length<=998)(ha:acc.length<=1000000000){body:Int × List UInt8->Option (Step (Int × List UInt8) (List UInt8))}
 (h0:∀s,body ((l.length:Int),s)=some (.out s)) (h1:∀(i:Nat) x s,l[i]? =some x->s.length<=1006000000->body ((i:Int),s)=some (.cont (((i+1:Nat):Int),addL s x))):iter body (0,acc)=some (l.foldl addL acc)/\(l.foldl addL acc).length<=acc.length+1000 * l.length:=
 Z8a l (fun i s=>(i,s)) addL id (fun i s=>s.length<=acc.length+1000 * i) (body:=body) (fun s _=>h0 s) (fun i x s hx hi=>by
  have hlt:=zYa hx;have h9x:=h9 x (List.mem_of_getElem? hx);refine ⟨h1 i x s hx (by omega),?_⟩;unfold addL;simp;omega) acc (by simp)
theorem kfb(l:List zea)(hl:l.length<=60)(hc:∀f∈l,Qfa f=0){body:Int × List UInt8->Option (Step (Int × List UInt8) (List UInt8))}
 (h0:∀s,body ((l.length:Int),s)=some (.out s)) (h1:∀(i:Nat) f s,l[i]? =some f->s.length<=1000000000->body ((i:Int),s)=some (.cont (((i+1:Nat):Int),addF s f))/\(addF s f).length<=s.length+5000000):iter body (0,([]:List UInt8))=some (l.foldl addF [])/\(l.foldl addF []).length<=5000000 * l.length:=
 Z8a l (fun i s=>(i,s)) addF id (fun i s=>s.length<=5000000 * i) (body:=body) (fun s _=>h0 s) (fun i f s hf hi=>by
  have hlt:=zYa hf;obtain ⟨q1,q2⟩:=h1 i f s hf (by omega);exact ⟨q1,by omega⟩) [] (by simp)
theorem V5a(m:zxa)(hb:m.Body.length<=1048576)(h60:m.Fields.length<=60)(hc:∀f∈m.Fields,Qfa f=0):wFa m=some (jea m):=by
 unfold wFa jea;obtain ⟨h1,h2⟩:=kfb m.Fields h60 hc (body:=vna m) (fun s=>by unfold vna;rw[zQa];rfl) (fun i f s hf hs=>by
  have hi:=zYa hf;obtain ⟨c1,c2,c3,c4⟩:=qKb (hc f (List.mem_of_getElem? hf));have hfl:=qIb f.Name f.Value;obtain ⟨q1,q2⟩:=qLb (flP f.Name f.Value) s (by omega) c4 hs (body:=vma (qdb f.Name f.Value)) (fun s=>by unfold vma;rw[c3,zQa];rfl) (fun k x s hx hs=>by
   have hk:=zYa hx;have:=c4 x (List.mem_of_getElem? hx);unfold vma;rw[c3,kfa hx,zwa hx];simp only[cond_true,Option.bind_some,sc k (by omega)];rw[qva (by omega)];simp only[Option.bind_some];rw[qva (by simp;omega)];rfl)
  unfold addF;refine ⟨?_,by omega⟩;unfold vna;rw[kfa hf,zwa hf];simp only[cond_true,Option.bind_some,VWa f.Name f.Value (by omega) (by omega),q1,sc i (by omega)])
 rw[h1];simp only[Option.bind_some];rw[qva (by simp;omega)];simp only[Option.bind_some];rw[qva (by simp;omega)];rfl
theorem VDa(m:zxa)(hb:m.Body.length<=1048576)(h60:m.Fields.length<=60)(hc:∀f∈m.Fields,Qfa f=0):wfa m=some (jea m):=by
 unfold wfa jea;obtain ⟨h1,h2⟩:=kfb m.Fields h60 hc (body:=q4a m) (fun s=>by unfold q4a;rw[zQa];rfl) (fun i f s hf hs=>by
  have hi:=zYa hf;obtain ⟨c1,c2,c3,c4⟩:=qKb (hc f (List.mem_of_getElem? hf));have hfl:=qIb f.Name f.Value;obtain ⟨q1,q2⟩:=qLb (flP f.Name f.Value) s (by omega) c4 hs (body:=q3a (flP f.Name f.Value)) (fun s=>by unfold q3a;rw[zQa];rfl) (fun k x s hx hs=>by
   have hk:=zYa hx;have:=c4 x (List.mem_of_getElem? hx);unfold q3a;rw[kfa hx,zwa hx];simp only[cond_true,Option.bind_some,sc k (by omega)];rw[qva (by omega)];simp only[Option.bind_some];rw[qva (by simp;omega)];rfl)
  unfold addF;refine ⟨?_,by omega⟩;unfold q4a;rw[kfa hf,zwa hf];simp only[cond_true,Option.bind_some,Kca f.Name f.Value (by omega) (by omega),q1,sc i (by omega)])
 rw[h1];simp only[Option.bind_some];rw[qva (by simp;omega)];simp only[Option.bind_some];rw[qva (by simp;omega)];rfl
def YGa:Nat->List UInt8->Option Bool
 | _,[]=>none
 | c,[x]=>if x==13 || x==10 then some true else if 998 < c+1 then some false else none
 | c,x::y::r=>if x==13 && y==10 then YGa 0 r else if x==13 || x==10 then some true else if 998 < c+1 then some false else YGa (c+1) (y::r)
def QWa{O:Type}(e:Bool->O)(c i:Nat)(x:UInt8)(r:List UInt8):Step (Int × Int) (Unit ⊕ O):=
 if x==13 && r.head? ==some 10 then .cont (0,((i+2:Nat):Int)) else if x==13 || x==10 then .out (.inr (e true)) else if 998 < c+1 then .out (.inr (e false)) else .cont (((c+1:Nat):Int),((i+1:Nat):Int))
theorem kgb{O:Type}(e:Bool->O)(l:List UInt8){body:Int × Int->Option (Step (Int × Int) (Unit ⊕ O))}
 (h0:∀c,body (c,(l.length:Int))=some (.out (.inl ())))
 (hs:∀(c:Nat) (p:List UInt8) x r,l=p++x::r->c<=998->body ((c:Int),(p.length:Int))=some (QWa e c p.length x r)):
 ∀(n:Nat) (r p:List UInt8) (c:Nat),r.length<=n->l=p++r->c<=998->iter body ((c:Int),(p.length:Int))=some ((YGa c r).elim (.inl ()) fun b=>.inr (e b)):=by
 intro n;induction n with
 | zero=>
  intro r p c hr hl hc;obtain rfl:r=[]:=List.length_eq_zero_iff.1 (by omega);have:p=l:=by simp[hl]
  subst this;exact zEa (h0 _)
 | succ n ih=>
  intro r p c hr hl hc
  match r,hr,hl with
  | [],_,hl=>
   have:p=l:=by simp[hl]
   subst this;exact zEa (h0 _)
  | [x],hr,hl=>
   have hb:=hs c p x [] hl hc;unfold QWa at hb;have e1:(x==13 && ([]:List UInt8).head? ==some 10)=false:=by simp
   rw[e1]at hb;simp only[Bool.false_eq_true,if_false]at hb;unfold YGa;cases hx:(x==13 || x==10) with
   | true=>rw[hx]at hb;exact zEa hb
   | false=>
    rw[hx]at hb;simp only[Bool.false_eq_true,if_false]at hb ⊢;by_cases h9:998 < c+1
    .rw[if_pos h9]at hb ⊢;exact zEa hb
    rw[if_neg h9]at hb ⊢;rw[zTa hb];have:=ih [] (p++ [x]) (c+1) (by simp) (by simp[hl]) (by omega);rw[List.length_append]at this;exact this
  | x::y::r,hr,hl=>
   have hb:=hs c p x (y::r) hl hc;unfold QWa at hb;have e1:((y::r).head? ==some (10:UInt8))=(y==10):=by simp
   rw[e1]at hb;unfold YGa;cases hxy:(x==13 && y==10) with
   | true=>
    rw[hxy]at hb;simp only[if_true]at hb ⊢;rw[zTa hb];have:=ih r (p++ [x,y]) 0 (by simp at hr;omega) (by simp[hl]) (by omega);rw[List.length_append]at this;exact this
   | false=>
    rw[hxy]at hb;simp only[Bool.false_eq_true,if_false]at hb ⊢;cases hx:(x==13 || x==10) with
    | true=>rw[hx]at hb;exact zEa hb
    | false=>
     rw[hx]at hb;simp only[Bool.false_eq_true,if_false]at hb ⊢;by_cases h9:998 < c+1
     .rw[if_pos h9]at hb ⊢;exact zEa hb
     rw[if_neg h9]at hb ⊢;rw[zTa hb];have:=ih (y::r) (p++ [x]) (c+1) (by simp at hr ⊢;omega) (by simp[hl]) (by omega);rw[List.length_append]at this;exact this
theorem w8b{l p r:List UInt8}{x:UInt8}(h:l=p++x::r)(hl:l.length<=1048576):(bif decide (((p.length+1:Nat):Int) < (l.length:Int)) then (idx l ((p.length+1:Nat):Int)).bind fun v13=>some (((v13.toNat:Int)==10)) else some false)=some (r.head? ==some 10):=by
 subst h;simp at hl;cases r with
 | nil=>
  have:decide (((p.length+1:Nat):Int) < ((p++ [x]).length:Int))=false:=by simp
  rw[this];rfl
 | cons y r=>
  have:decide (((p.length+1:Nat):Int) < ((p++x::y::r).length:Int))=true:=by simp;omega
  rw[this,Vwa];have:(p++x::y::r)[p.length+1]? =some y:=by simp[List.getElem?_append_right]
  rw[this];simp only[cond_true,Option.bind_some,jna y 10 (by decide)];simp
theorem zbb(l:List UInt8)(hl:l.length<=1048576):jVa l=some ((YGa 0 l).elim 0 fun b=>bif b then 11 else 1):=by
 unfold jVa;have:=kgb (fun b:Bool=>bif b then (11:Int) else 1) l (body:=v0a l) (fun c=>by unfold v0a;rw[zQa];rfl) (fun c p x r h hc=>by
  have hx:l[p.length]? =some x:=by simp[h]
  have hi:=zYa hx;unfold v0a wGa QWa;dsimp only;rw[kfa hx,zwa hx];simp only[cond_true,Option.bind_some,jna x 13 (by decide),jna x 10 (by decide),sc p.length (by omega),sc (p.length+1) (by omega),sc c (by omega)];rw[w8b h hl];have h9:decide ((998:Int) < ((c+1:Nat):Int))=decide (998 < c+1):=by rw[Bool.eq_iff_iff];simp;omega
  rw[h9];by_cases h98:998 < c+1 <;> simp only[h98,decide_true,decide_false,if_true,if_false] <;> cases x==13 <;> cases x==10 <;> cases r.head? ==some 10 <;> rfl) l.length l [] 0 (Nat.le_refl _) rfl (by omega)
 have h2:iter (v0a l) (0,0)=_:=this;rw[h2];cases YGa 0 l with
 | none=>rfl
 | some b=>cases b <;> rfl
def bodyF(l:List UInt8):zqa:=(YGa 0 l).elim ⟨0,0⟩ fun b=>bif b then ⟨11, -5⟩ else ⟨1, -6⟩
theorem W1a(l:List UInt8)(hl:l.length<=1048576):ypa l=some (bodyF l):=by
 unfold ypa bodyF;rw[zbb l hl];cases YGa 0 l with
 | none=>rfl
 | some b=>cases b <;> rfl
def msgF(m:zxa):zqa:=if (Qga m.Fields).Code !=0 then Qga m.Fields else if 12000 < (jea m).length then ⟨1, -4⟩ else bodyF m.Body
def khb(m:zxa):Prop:=smallF m.Fields/\m.Body.length<=1048576
theorem Qha(m:zxa)(h:khb m):voa m=some (msgF m):=by
 obtain ⟨h1,h2⟩:=h;unfold voa msgF;rw[QVa _ h1];simp only[Option.bind_some,z6a,zMa,W1a _ h2];cases hc:(Qga m.Fields).Code !=0 with
 | true=>rfl
 | false=>
  obtain ⟨q1,q2,q3⟩:=VCa m.Fields (by simpa using hc);rw[V5a m h2 (by omega) q3];simp only[Option.bind_some,cond_false,Bool.false_eq_true,if_false];have:decide ((12000:Int) < ((jea m).length:Int))=decide (12000 < (jea m).length):=by generalize (jea m).length=n;rw[Bool.eq_iff_iff];simp;omega
  rw[this];by_cases hb:12000 < (jea m).length <;> simp[hb]
theorem VEa(m:zxa)(h:khb m):vta m=some (msgF m):=by
 obtain ⟨⟨h1,h3⟩,h2⟩:=h;unfold vta msgF;rw[z0a m.Fields Kda (.inl ()) .inr]
 .have hbl:iter (qla m) (0,0)=_:=kgb (fun b:Bool=>bif b then (⟨11, -5⟩:zqa) else ⟨1, -6⟩) m.Body (body:=qla m) (fun c=>by unfold qla;rw[zQa];rfl) (fun c p x r h hc=>by
   have hx:m.Body[p.length]? =some x:=by simp[h]
   have hi:=zYa hx;unfold qla q5a QWa;dsimp only;rw[kfa hx,zwa hx];simp only[cond_true,Option.bind_some,jna x 13 (by decide),jna x 10 (by decide),sc p.length (by omega),sc (p.length+1) (by omega),sc c (by omega),jca];rw[w8b h h2];have h9:decide ((998:Int) < ((c+1:Nat):Int))=decide (998 < c+1):=by rw[Bool.eq_iff_iff];simp;omega
   rw[h9];by_cases h98:998 < c+1 <;> simp only[h98,decide_true,decide_false,if_true,if_false] <;> cases x==13 <;> cases x==10 <;> cases r.head? ==some 10 <;> rfl) m.Body.length m.Body [] 0 (Nat.le_refl _) rfl (by omega)
  rw[hbl,dec60f];simp only[Option.bind_some,jca];by_cases h6:60 < m.Fields.length
  .have:Qga m.Fields=⟨2, -1⟩:=by unfold Qga;rw[if_pos h6]
   rw[this];simp[h6]
  simp only[h6,decide_false,cond_false];have hh:Qga m.Fields=(kba Kda 0 m.Fields).getD ⟨0,0⟩:=by unfold Qga;rw[if_neg h6]
  cases hq:kba Kda 0 m.Fields with
  | some y=>
   rw[hq]at hh;have hc:((Qga m.Fields).Code !=0)=true:=by
    cases hc:(Qga m.Fields).Code !=0 with
    | true=>rfl
    | false=>
     obtain ⟨_,q2,_⟩:=VCa m.Fields (by simpa using hc);rw[hq]at q2;cases q2
   rw[hc,hh];rfl
  | none=>
   rw[hq]at hh;have hz:Qga m.Fields=⟨0,0⟩:=hh;obtain ⟨q1,q2,q3⟩:=VCa m.Fields (by rw[hz]);rw[VDa m h2 (by omega) q3,hz];simp only[Option.bind_some,Option.elim_none,Sum.elim_inl];have hbb:m.Body.length<=(jea m).length:=by unfold jea;simp;omega
   have e2:(bif decide ((12000:Int) < (m.Body.length:Int)) then some true else some (decide ((12000:Int) < ((jea m).length:Int))))=some (decide (12000 < (jea m).length)):=by
    generalize (jea m).length=n at *;by_cases hx:12000 < m.Body.length
    .have e3:decide ((12000:Int) < (m.Body.length:Int))=true:=by rw[decide_eq_true_eq];omega
     have e4:decide (12000 < n)=true:=by rw[decide_eq_true_eq];omega
     rw[e3,e4];rfl
    have e3:decide ((12000:Int) < (m.Body.length:Int))=false:=by rw[decide_eq_false_iff_not];omega
    rw[e3];simp only[cond_false,Option.some.injEq];rw[Bool.eq_iff_iff];simp;omega
   rw[e2];simp only[Option.bind_some];unfold bodyF;by_cases hb:12000 < (jea m).length
   .simp[hb]
   simp only[hb,decide_false,cond_false,if_false];cases YGa 0 m.Body <;> rfl
 .unfold v1a;rw[zQa];rfl
 intro i f hf;have hi:=zYa hf;obtain ⟨hn,hv⟩:=h3 f (List.mem_of_getElem? hf);unfold v1a Kda;rw[kfa hf,zwa hf];simp only[cond_true,Option.bind_some,YFa _ hn hv,jca,sc i (by omega)];cases Qfa f !=0 <;> rfl
instance:DecidableEq zba:=fun a b=>decidable_of_iff (a.Address=b.Address/\a.Notify=b.Notify) (by cases a;cases b;simp)
instance:DecidableEq zqa:=fun a b=>decidable_of_iff (a.Code=b.Code/\a.Index=b.Index) (by cases a;cases b;simp)
instance:DecidableEq zGa:=fun a b=>decidable_of_iff (a.From=b.From/\a.To=b.To/\a.Id=b.Id) (by cases a;cases b;simp)
theorem rec_eq(a b:zba):qwa [(a.Address==b.Address),(a.Notify==b.Notify)]=(a==b):=by
 cases a;cases b;rw[Bool.eq_iff_iff];simp[qwa]
def qfb(s:Str):Str:=if atP s < s.length then s.drop (atP s+1) else []
theorem vHb(s:Str):(Jfa s).2.1=qfb s:=by
 unfold Jfa qfb;by_cases h:atP s < s.length
 .rw[if_pos h,if_pos h]
 rw[if_neg h,if_neg h]
theorem w9b{α:Type}(l:List α)(i:Nat)(z:α)(h:i<=l.length):(clr0 l i z).take i=l.take i:=by
 unfold clr0;simp[List.take_append,h]
def W2a(s:Str)(r:zba):Bool:=r.Address==s
def qgb(out:List zba)(s:Str):Bool:=out.any (W2a s)
def putR(out:List zba)(r:zba):List zba:=if qgb out r.Address then out.map (fun x=>if W2a r.Address x then ⟨x.Address,iOr x.Notify r.Notify⟩ else x) else out++ [r]
def posA(out:List zba)(s:Str):Option Nat:=out.findIdx? (W2a s)
theorem posA_has(out:List zba)(s:Str):(posA out s).isSome=qgb out s:=by unfold posA qgb;exact List.findIdx?_isSome
theorem posA_app(out:List zba)(r:zba)(s:Str)(h:qgb out r.Address=false):posA (out++ [r]) s=if r.Address==s then some out.length else posA out s:=by
 unfold posA;rw[List.findIdx?_append];by_cases hs:(r.Address==s)=true
 .rw[if_pos hs];have e:r.Address=s:=beq_iff_eq.1 hs;subst e;have:out.findIdx? (W2a r.Address)=none:=by
   have:=posA_has out r.Address;rw[h]at this;unfold posA at this;simpa using this
  rw[this];simp[W2a]
 rw[if_neg hs];have:W2a s r=false:=by unfold W2a;simpa using hs
 simp[List.findIdx?_cons,this]
theorem posA_map(out:List zba)(f:zba->zba)(hf:∀x,(f x).Address=x.Address)(s:Str):posA (out.map f) s=posA out s:=by
 unfold posA;rw[List.findIdx?_map]
 congr 1
 funext x;simp[Function.comp,W2a,hf]
structure MInv (i:Nat) (out:List zba) (m:List (Str × Int)):Prop where
 len:out.length<=i
 nd:(out.map (·.Address)).Nodup
 mp:∀s,mget m s=(posA out s).map fun k=>((k:Nat):Int)
theorem MInv.put{i:Nat}{out:List zba}{m:List (Str × Int)}(h:MInv i out m)(r:zba):MInv (i+1) (putR out r) (if qgb out r.Address then m else mput m r.Address (out.length:Int)):=by
 unfold putR;cases hh:qgb out r.Address with
 | true=>
  simp only[if_true];have hf:∀x:zba,(if W2a r.Address x then (⟨x.Address,iOr x.Notify r.Notify⟩:zba) else x).Address=x.Address:=by intro x;split <;> rfl
  refine ⟨by simp;have:=h.len;omega,?_,fun s=>?_⟩
  .rw[List.map_map,show ((·.Address) ∘ fun x:zba=>if W2a r.Address x then (⟨x.Address,iOr x.Notify r.Notify⟩:zba) else x)=(·.Address) from funext hf];exact h.nd
  rw[posA_map _ _ hf];exact h.mp s
 | false=>
  simp only[Bool.false_eq_true,if_false];refine ⟨by simp;exact h.len,?_,fun s=>?_⟩
  .rw[List.map_append,List.nodup_append];refine ⟨h.nd,by simp,?_⟩;intro a ha b hb;simp at hb;subst hb;rintro rfl;obtain ⟨x,hx,hxe⟩:=List.mem_map.1 ha;unfold qgb at hh;rw[List.any_eq_false]at hh;exact hh x hx (by simp[W2a,hxe])
  rw[vyb,posA_app _ _ _ hh,h.mp s];by_cases hs:(r.Address==s)=true
  .rw[if_pos hs,if_pos hs];rfl
  rw[if_neg hs,if_neg hs]
theorem recF_ok(l:List zba)(h:(recF l).Code=0):recF l=⟨0,0⟩:=by
 unfold recF at h ⊢;cases hf:kba (recQ l) 0 l with
 | none=>rfl
 | some f=>
  exfalso;obtain ⟨i,x,hx,hq⟩:=Zva hf;rw[hf]at h;unfold recQ at hq;split at hq
  .cases hq;simp at h
  split at hq
  .cases hq;simp at h
  split at hq
  .cases hq;simp at h
  cases hq
theorem envF_ok(e:zGa)(h:(envF e).Code=0):envF e=⟨0,0⟩:=by
 unfold envF at h ⊢;split
 .rename_i h1;rw[if_pos h1]at h;simp at h
 rename_i h1;rw[if_neg h1]at h;split
 .rename_i h2;rw[if_pos h2]at h;simp at h
 rename_i h2;rw[if_neg h2]at h;split
 .rename_i h3;rw[if_pos h3]at h;simp at h
 rename_i h3;rw[if_neg h3]at h;exact recF_ok _ h
def yLa(m:kca):zqa:=if (envF m.Envelope).Code !=0 then envF m.Envelope else if (msgF m.Message).Code !=0 then ⟨(msgF m.Message).Code, -30⟩ else ⟨0,0⟩
theorem yaa(m:kca)(h1:z9b m.Envelope)(h2:khb m.Message):qQa m=some (yLa m):=by
 unfold qQa yLa;rw[KKa _ h1,Qha _ h2];simp only[Option.bind_some,z6a,zMa,kEa];cases (envF m.Envelope).Code !=0 <;> cases (msgF m.Message).Code !=0 <;> rfl
theorem YHa(m:kca)(h1:z9b m.Envelope)(h2:khb m.Message):w5a m=some (yLa m):=by
 unfold w5a yLa;rw[QTa _ h1,VEa _ h2];simp only[Option.bind_some,jca];by_cases hc:(envF m.Envelope).Code=0
 .have hz:=envF_ok _ hc;rw[hz];cases h:(msgF m.Message).Code !=0 <;> simp[h]
 have e1:((envF m.Envelope).Code !=0)=true:=by simpa using hc
 have e2:((envF m.Envelope).Code==0)=false:=by simpa using hc
 rw[e1,e2];simp only[cond_false,Option.bind_some,if_true]
theorem wTa(t:Int):qZa t=some (decide (-68719476736<=t) && decide (t<=68719476736)):=by
 unfold qZa;by_cases h:(-68719476736:Int)<=t <;> simp[h]
def add1(o:List Str)(x:Str):List Str:=if o.contains x then o else o++ [x]
def Jla(o xs:List Str):List Str:=xs.foldl add1 o
theorem add1_mem(o:List Str)(x y:Str):y∈add1 o x↔y∈o∨y=x:=by
 unfold add1;split
 .rename_i h;simp at h;constructor
  .exact .inl
  rintro (h1 | rfl)
  .exact h1
  exact h
 simp
theorem qhb(o:List Str)(x:Str):o <+:add1 o x:=by
 unfold add1;split
 .exact List.prefix_refl _
 exact List.prefix_append _ _
theorem vIb{o:List Str}(h:o.Nodup)(x:Str):(add1 o x).Nodup:=by
 unfold add1;split
 .exact h
 rename_i hx;simp at hx;rw[List.nodup_append];exact ⟨h,by simp,fun a ha b hb hab=>by simp at hb;subst hb;subst hab;exact hx ha⟩
theorem vJb(xs:List Str):∀(o:List Str) (y:Str),y∈Jla o xs↔y∈o∨y∈xs:=by
 induction xs with
 | nil=>intro o y;simp[Jla]
 | cons x xs ih=>intro o y;show y∈Jla (add1 o x) xs↔_;rw[ih,add1_mem];simp[or_assoc]
theorem zcb(xs:List Str):∀o:List Str,o <+:Jla o xs:=by
 induction xs with
 | nil=>intro o;exact List.prefix_refl _
 | cons x xs ih=>intro o;exact (qhb o x).trans (ih _)
theorem kib(xs:List Str):∀{o:List Str},o.Nodup->(Jla o xs).Nodup:=by
 induction xs with
 | nil=>intro o h;exact h
 | cons x xs ih=>intro o h;exact ih (vIb h x)
theorem nodup_le{l m:List Str}(hl:l.Nodup)(h:∀x∈l,x∈m):l.length<=m.length:=by
 induction l generalizing m with
 | nil=>simp
 | cons x l ih=>
  have hx:x∈m:=h x (by simp);obtain ⟨hxl,hl'⟩:=List.nodup_cons.1 hl;have:=ih (m:=m.erase x) hl' (fun y hy=>by
   have hne:y≠x:=by rintro rfl;exact hxl hy
   exact (List.mem_erase_of_ne hne).2 (h y (by simp[hy])))
  rw[List.length_erase_of_mem hx]at this;have:0 < m.length:=List.length_pos_of_mem hx;simp;omega
def tgtO(l:List jua)(s:Str):Option (List Str):=(l.find? (fun a=>a.Address==s)).map (·.To)
def tgt(l:List jua)(s:Str):List Str:=(tgtO l s).getD []
def univ(l:List jua)(from_:List Str):List Str:=from_++l.flatMap (·.To)
theorem tgt_sub(l:List jua)(s x:Str)(h:x∈tgt l s):∃a∈l,a.Address=s/\x∈a.To:=by
 unfold tgt tgtO at h;cases hf:l.find? (fun a=>a.Address==s) with
 | none=>rw[hf]at h;simp at h
 | some a=>
  rw[hf]at h;have:=List.find?_some hf;exact ⟨a,List.mem_of_find?_eq_some hf,by simpa using this,by simpa using h⟩
structure Inv (l:List jua) (U:List Str) (k:Nat) (out:List Str):Prop where
 nd:out.Nodup
 sub:∀x∈out,x∈U
 le:k<=out.length
theorem Inv.len{l:List jua}{U:List Str}{k:Nat}{out:List Str}(h:Inv l U k out):out.length<=U.length:=nodup_le h.nd h.sub
theorem Inv.step{l:List jua}{from_:List Str}{k:Nat}{out:List Str}(h:Inv l (univ l from_) k out){s:Str}(hs:out[k]? =some s):Inv l (univ l from_) (k+1) (Jla out (tgt l s)):=by
 refine ⟨kib _ h.nd,fun x hx=>?_,?_⟩
 .rcases (vJb _ _ _).1 hx with h1 | h1
  .exact h.sub x h1
  obtain ⟨a,ha,_,hxa⟩:=tgt_sub l s x h1;exact List.mem_append.2 (.inr (List.mem_flatMap.2 ⟨a,ha,hxa⟩))
 have:=(zcb (tgt l s) out).length_le;have:=zYa hs;omega
theorem qMb{α β:Type}(f:α->β)(l:List α):∀o:List β,l.foldl (fun o x=>o++ [f x]) o=o++l.map f:=by
 induction l with
 | nil=>intro o;simp
 | cons x l ih=>intro o;simp[ih]
instance:DecidableEq zea:=fun a b=>decidable_of_iff (a.Name=b.Name/\a.Value=b.Value) (by cases a;cases b;simp)
instance:DecidableEq zxa:=fun a b=>decidable_of_iff (a.Fields=b.Fields/\a.Body=b.Body) (by cases a;cases b;simp)
instance:DecidableEq kca:=fun a b=>decidable_of_iff (a.Envelope=b.Envelope/\a.Message=b.Message) (by cases a;cases b;simp)
def vTa(m:kca):Prop:=z9b m.Envelope/\khb m.Message
theorem QXa{α:Type}{lim:Nat}(l:List α)(h:l.length<=lim):(nilE l.isEmpty (some ([]:List α)) ((app lim ([]:List α) l).bind fun v=>some v))=some l:=by
 rw[qva (by simpa using h)];simp only[List.nil_append,Option.bind_some];exact wob _ _ _ (fun he=>by rw[List.isEmpty_iff.1 he])
theorem Kea(l:List zea)(h:l.length<=1048576):kqa l=some l:=QXa l (by omega)
theorem j5a(m:kca)(h:vTa m):qha m=some m:=by
 obtain ⟨⟨_,_,h1,_⟩,⟨h2,_⟩,h3⟩:=h;unfold qha;rw[QXa m.Envelope.To (by omega)];simp only[Option.bind_some];rw[Kea _ h2,QXa m.Message.Body (by omega)];rfl
theorem zdb{α:Type}{L:List α}{i:Nat}{x:α}(h:L[i]? =some x):L.set i x=L:=by
 apply List.ext_getElem?;intro j;rw[List.getElem?_set];split
 .rename_i hij;subst hij;split
  .exact h.symm
  rename_i hn;exact absurd (zYa h) hn
 rfl
theorem delAt_eq{α:Type}(L:List α)(k:Nat)(z:α)(hk:k < L.length)(hl:L.length<=1048576):((cut3 L (k:Int) ((w64 ((k:Int)+1))) ((L.length:Int))).bind fun v34=>(bif ((k:Int)==(w64 ((k:Int)+1))) then some L else (cut L 0 (k:Int)).bind fun v37=>(cut L ((w64 ((k:Int)+1))) (L.length:Int)).bind fun v39=>(shft L (k:Int) ((w64 ((k:Int)+1)))).bind fun v41=>(WDa v41 (((((Int.toNat (k:Int))+(L.length - (Int.toNat ((w64 ((k:Int)+1)))))):Nat):Int)) ((L.length:Int))).bind fun v43=>some ((List.take ((Int.toNat (k:Int))+(L.length - (Int.toNat ((w64 ((k:Int)+1)))))) ((clr0 v41 (Int.toNat (((((Int.toNat (k:Int))+(L.length - (Int.toNat ((w64 ((k:Int)+1)))))):Nat):Int))) z))))))=some (L.take k++L.drop (k+1)):=by
 rw[sc k (by omega)];have e1:cut3 L (k:Int) ((k+1:Nat):Int) (L.length:Int)=some ():=by unfold cut3;rw[if_pos ⟨by omega,by omega,by omega,by omega⟩]
 have e2:((k:Int)==((k+1:Nat):Int))=false:=by rw[beq_eq_false_iff_ne];omega
 rw[e1,e2,KXa (by omega),ZBa (by omega)];simp only[Option.bind_some,cond_false,Int.toNat_natCast];have e3:shft L (k:Int) ((k+1:Nat):Int)=some (L.take k++L.drop (k+1)++L.drop (k+(L.length - (k+1)))):=by
  unfold shft;rw[if_pos ⟨by omega,by omega,by omega⟩];simp only[Int.toNat_natCast]
 rw[e3];simp only[Option.bind_some];have hlen:(L.take k++L.drop (k+1)++L.drop (k+(L.length - (k+1)))).length=L.length:=by simp;omega
 have e4:WDa (L.take k++L.drop (k+1)++L.drop (k+(L.length - (k+1)))) ((k+(L.length - (k+1)):Nat):Int) (L.length:Int)=some ():=by
  unfold WDa;rw[if_pos ⟨by omega,by omega,by rw[hlen]⟩]
 rw[e4];simp only[Option.bind_some];rw[w9b _ _ _ (by rw[hlen];omega)];have e5:(L.take k++L.drop (k+1)).length=k+(L.length - (k+1)):=by simp;omega
 rw[<-e5,List.take_left'];rfl
theorem QYa(m:zxa)(hf:m.Fields.length<=1048576):wIa m m=some true:=by
 unfold wIa;have e1:((m.Fields.length:Int) !=(m.Fields.length:Int))=false:=by simp
 have e2:(m.Body !=m.Body)=false:=by simp
 rw[e1,e2];simp only[cond_false,Option.bind_some];rw[z0a m.Fields (fun _ _=>none) (.inl ()) .inr]
 .have:kba (fun _ _=>(none:Option Bool)) 0 m.Fields=none:=by rw[vka];intro i x _;rfl
  simp only[Option.bind_some];rw[this];rfl
 .unfold wma;rw[zQa];rfl
 intro i f hx;have hi:=zYa hx;unfold wma;rw[kfa hx,zwa hx];simp only[cond_true,Option.bind_some,sc i (by omega)];simp[qwa]
theorem W3a(m:kca)(h1:m.Envelope.To.length<=1048576)(h2:m.Message.Fields.length<=1048576):jWa m m=some true:=by
 unfold jWa;have e1:(m.Envelope.From !=m.Envelope.From)=false:=by simp
 have e2:(m.Envelope.Id !=m.Envelope.Id)=false:=by simp
 have e3:((m.Envelope.To.length:Int) !=(m.Envelope.To.length:Int))=false:=by simp
 rw[e1,e2,e3];simp only[cond_false,Option.bind_some];rw[z0a m.Envelope.To (fun _ _=>none) (.inl ()) .inr]
 .have:kba (fun _ _=>(none:Option Bool)) 0 m.Envelope.To=none:=by rw[vka];intro i x _;rfl
  simp only[Option.bind_some];rw[this];simp only[Option.elim_none,Sum.elim_inl];rw[QYa _ h2];rfl
 .unfold yKa;rw[zQa];rfl
 intro i f hx;have hi:=zYa hx;unfold yKa;rw[kfa hx,zwa hx];simp only[cond_true,Option.bind_some,sc i (by omega)];simp[qwa]
def wBad(w:zia)(r:zba):Bool:= !(w.Recipient==r) || (!(w.Result==0) && !(w.Result==1) && !(w.Result==3)) || (w.Busy && !(w.Result==0))
def opnW(w:zia):Bool:=w.Result==0
def V6a(e:zca):Bool:=decide (e.To.length=e.Mail.Envelope.To.length) && !((e.To.zip e.Mail.Envelope.To).any fun p=>wBad p.1 p.2) && e.To.any opnW
theorem wBad_eq(w:zia)(r:zba):((bif (!(qwa [(w.Recipient.Address==r.Address),(w.Recipient.Notify==r.Notify)])) then some true else (bif (w.Result !=0) then (bif (w.Result !=1) then (bif (w.Result !=3) then some true else (bif w.Busy then some ((w.Result !=0)) else some false)) else (bif w.Busy then some ((w.Result !=0)) else some false)) else (bif w.Busy then some ((w.Result !=0)) else some false))):Option Bool)=some (wBad w r):=by
 rw[rec_eq];unfold wBad;by_cases h0:w.Result=0
 .rw[h0];cases w.Recipient==r <;> cases w.Busy <;> rfl
 have e0:(w.Result==0)=false:=beq_eq_false_iff_ne.2 h0;simp only[bne,e0];cases w.Recipient==r <;> cases w.Busy <;> cases w.Result==1 <;> cases w.Result==3 <;> rfl
theorem zip_get{α β:Type}{a:List α}{b:List β}{p:List (α × β)}{x:α × β}{r:List (α × β)}(h:a.zip b=p++x::r):a[p.length]? =some x.1/\b[p.length]? =some x.2:=by
 have:(a.zip b)[p.length]? =some x:=by rw[h];simp
 rw[List.getElem?_zip_eq_some]at this;exact this
theorem yab{β:Type}(q:zia->Bool):∀{a:List zia} {b:List β},a.length=b.length->((a.zip b).any fun p=>q p.1)=a.any q
 | [],_,_=>by simp
 | x::a,[],h=>by simp at h
 | x::a,y::b,h=>by simp only[List.zip_cons_cons,List.any_cons];rw[yab q (by simpa using h)]
theorem ZGa(e:zca)(h:e.To.length<=1048576):vba e=some (V6a e):=by
 unfold vba V6a;by_cases hl:e.To.length=e.Mail.Envelope.To.length
 .rw[show ((e.To.length:Int) !=(e.Mail.Envelope.To.length:Int))=false by rw[hl];simp];simp only[cond_false];have hz:(e.To.zip e.Mail.Envelope.To).length=e.To.length:=by rw[List.length_zip];omega
  have hloop:iter (qza e) (false,0)=some (if (e.To.zip e.Mail.Envelope.To).any (fun p=>wBad p.1 p.2) then .inr false else .inl (false || (e.To.zip e.Mail.Envelope.To).any fun p=>opnW p.1)):=by
   refine QPa (e.To.zip e.Mail.Envelope.To) (fun n s=>(s,(n:Int))) (fun n r s=>(if r.any (fun p=>wBad p.1 p.2) then .inr false else .inl (s || r.any fun p=>opnW p.1):Bool ⊕ Bool)) (fun s=>?_) (fun p x r s hp=>?_) false rfl
   .unfold qza;dsimp only;rw[hz,zQa];simp
   obtain ⟨g1,g2⟩:=zip_get hp;have hlt:=zYa g1;have hb:qza e (s,(p.length:Int))=some (if wBad x.1 x.2 then .out (.inr false) else .cont (s || opnW x.1,((p.length+1:Nat):Int))):=by
    unfold qza vpa;dsimp only;rw[kfa g1,zwa g1,zwa g2];simp only[cond_true,Option.bind_some,wBad_eq,sc _ (show p.length < 9223372036854775807 by omega)];unfold opnW;cases wBad x.1 x.2 <;> cases s <;> rfl
   rw[hb];cases hw:wBad x.1 x.2 with
   | true=>left;simp[hw]
   | false=>right;exact ⟨_,rfl,by simp only[List.any_cons,hw,Bool.false_or,Bool.or_assoc]⟩
  rw[hloop];simp only[Bool.false_or,yab opnW hl];rw[decide_eq_true hl];cases (e.To.zip e.Mail.Envelope.To).any (fun p=>wBad p.1 p.2) <;> rfl
 rw[show ((e.To.length:Int) !=(e.Mail.Envelope.To.length:Int))=true by simp;omega,decide_eq_false hl];rfl
def joa(t:Int):Bool:=decide (-68719476736<=t) && decide (t<=68719476736)
theorem zeb(t:Int):j0a t=some (joa t):=by unfold j0a;rw[vSa];rfl
def rngQ(e:zca):Bool:=joa e.Since && joa e.Due && decide (0<=e.Tries) && decide (e.Tries<=1000000)
def queR(nx:Int):Nat->Int->List zca->Option zqa
 | _,_,[]=>none
 | i,last,e::r=>if (yLa e.Mail).Code !=0 then some ⟨(yLa e.Mail).Code,i⟩ else if decide (e.Id<=last) || decide (nx<=e.Id) then some ⟨19,i⟩ else if !rngQ e then some ⟨3,i⟩ else if !V6a e then some ⟨5,i⟩ else queR nx (i+1) e.Id r
theorem QZa(nx:Int)(i:Nat)(last:Int)(e:zca)(r:List zca):queR nx i last (e::r)=if (yLa e.Mail).Code !=0 then some ⟨(yLa e.Mail).Code,i⟩ else if decide (e.Id<=last) || decide (nx<=e.Id) then some ⟨19,i⟩ else if !rngQ e then some ⟨3,i⟩ else if !V6a e then some ⟨5,i⟩ else queR nx (i+1) e.Id r:=rfl
def queF(q:zza):zqa:=if 20 < q.Entries.length then ⟨2, -1⟩ else if decide (q.Next < 0) || decide (1000000 < q.Next) then ⟨3, -2⟩ else (queR q.Next 0 (-1) q.Entries).getD ⟨0,0⟩
def jfa(q:zza):Prop:=q.Entries.length<=1048576/\∀e∈q.Entries,vTa e.Mail/\e.To.length<=1048576
theorem j6a(q:zza)(h:jfa q):vua q=some (queF q):=by
 unfold vua queF;by_cases h20:20 < q.Entries.length
 .rw[decide_eq_true (show (20:Int) < (q.Entries.length:Int) by omega),if_pos h20];rfl
 rw[decide_eq_false (show ¬(20:Int) < (q.Entries.length:Int) by omega),if_neg h20];simp only[cond_false,Option.bind_some];have e1:((bif decide (q.Next < 0) then some true else some (decide (1000000 < q.Next))):Option Bool)=some (decide (q.Next < 0) || decide (1000000 < q.Next)):=by cases decide (q.Next < 0) <;> rfl
 rw[e1];simp only[Option.bind_some];cases hn:decide (q.Next < 0) || decide (1000000 < q.Next) with
 | true=>rfl
 | false=>
  simp only[cond_false,Bool.false_eq_true,if_false];have hloop:iter (qma q) (-1,0)=some ((queR q.Next 0 (-1) q.Entries).elim (.inl ()) .inr):=by
   refine QPa q.Entries (fun n (s:Int)=>(s,(n:Int))) (fun n r s=>((queR q.Next n s r).elim (.inl ()) .inr:Unit ⊕ zqa)) (fun s=>?_) (fun p x r s hp=>?_) (-1) rfl
   .unfold qma;dsimp only;rw[zQa];rfl
   have hx:q.Entries[p.length]? =some x:=by rw[hp];simp
   have hlt:=zYa hx;obtain ⟨⟨m1,m2⟩,m3⟩:=h.2 x (List.mem_of_getElem? hx);have hb:qma q (s,(p.length:Int))=some (if (yLa x.Mail).Code !=0 then .out (.inr ⟨(yLa x.Mail).Code,p.length⟩) else if decide (x.Id<=s) || decide (q.Next<=x.Id) then .out (.inr ⟨19,p.length⟩) else if !rngQ x then .out (.inr ⟨3,p.length⟩) else if !V6a x then .out (.inr ⟨5,p.length⟩) else .cont (x.Id,((p.length+1:Nat):Int))):=by
    unfold qma;dsimp only;rw[kfa hx,zwa hx];simp only[cond_true,Option.bind_some,yaa x.Mail m1 m2,z6a,zMa,wTa,ZGa x m3,sc _ (show p.length < 9223372036854775807 by omega)];have e2:decide (x.Tries < 0)= !decide (0<=x.Tries):=by rw[Bool.eq_iff_iff];simp
    have e3:decide ((1000000:Int) < x.Tries)= !decide (x.Tries<=1000000):=by rw[Bool.eq_iff_iff];simp
    rw[e2,e3];unfold rngQ joa;cases (yLa x.Mail).Code !=0 <;> cases decide (x.Id<=s) <;> cases decide (q.Next<=x.Id) <;> cases (decide (-68719476736<=x.Since) && decide (x.Since<=68719476736)) <;> cases (decide (-68719476736<=x.Due) && decide (x.Due<=68719476736)) <;> cases decide (0<=x.Tries) <;> cases decide (x.Tries<=1000000) <;> cases V6a x <;> rfl
   rw[hb,QZa];split
   .exact .inl rfl
   split
   .exact .inl rfl
   split
   .exact .inl rfl
   split
   .exact .inl rfl
   exact .inr ⟨_,rfl,rfl⟩
  rw[hloop];cases queR q.Next 0 (-1) q.Entries <;> rfl
def ybb(l:List zca):Prop:=l.length<=1048576/\∀e∈l,vTa e.Mail/\e.To.length<=1048576
theorem vUa(l:List zca)(h:l.length<=1048576):zZa l=some l:=QXa l (by omega)
theorem Zxa(l:List zia)(h:l.length<=1048576):zLa l=some l:=QXa l (by omega)
theorem W4a(L:List zca)(h:ybb L):iter (yqa L) (0,0,L)=some (L,L.length):=by
 refine QPa L (fun n (_:Unit)=>((n:Int),n,L)) (fun n r _=>(L,L.length)) (fun _=>?_) (fun p x r _ hp=>.inr ⟨(),?_,rfl⟩) () rfl
 .unfold yqa;dsimp only;rw[zQa];rfl
 have hx:L[p.length]? =some x:=by rw[hp];simp
 have hlt:=zYa hx;have h0:=h.1;obtain ⟨h1,h2⟩:=h.2 x (List.mem_of_getElem? hx);unfold yqa;dsimp only;rw[kfa hx,zwa hx];simp only[cond_true,Option.bind_some,j5a x.Mail h1,Zxa x.To h2,Jaa,vub,Int.toNat_natCast,Nat.le_refl,if_true,zdb hx,zwa hx,sc _ (show p.length < 9223372036854775807 by omega)]
theorem qib(m:kca)(h:m.Envelope.To.length<=1048576):iter (wua m) (0,([]:List zia))=some (m.Envelope.To.map fun r=>⟨r,0,false⟩):=by
 have:=(Z8a m.Envelope.To (fun i acc=>(i,acc)) (fun acc r=>acc++ [(⟨r,0,false⟩:zia)]) (fun acc=>acc) (fun i acc=>acc.length=i) (body:=wua m) (fun s hs=>by unfold wua;simp[zQa]) (fun i r acc hr hi=>by
  have hlt:=zYa hr;refine ⟨?_,by simp[hi]⟩;unfold wua;dsimp only;rw[kfa hr,zwa hr];simp only[cond_true,Option.bind_some,sc i (by omega)];rw[qva (by simp;omega)];rfl) ([]:List zia) rfl).1
 rw[this,qMb (fun r=>(⟨r,0,false⟩:zia))];rfl
def newE(q:zza)(m:kca)(now:Int):zca:=⟨q.Next,m,now,0,now,m.Envelope.To.map fun r=>⟨r,0,false⟩⟩
def addP(q:zza)(m:kca)(now:Int):zza × Int × zqa:=
 if (queF q).Code !=0 then (⟨[],0⟩,0,queF q) else if (yLa m).Code !=0 then (⟨[],0⟩,0,⟨(yLa m).Code, -6⟩) else if !joa now then (⟨[],0⟩,0,⟨3, -7⟩) else
 if q.Entries.length=20∨q.Next=1000000 then (⟨[],0⟩,0,⟨2, -8⟩) else (⟨q.Entries++ [newE q m now],q.Next+1⟩,q.Next,⟨0,0⟩)
theorem W5a{nx:Int}:∀{l:List zca} {i:Nat} {last:Int},queR nx i last l=none->∀e∈l,(yLa e.Mail).Code=0/\last < e.Id/\e.Id < nx/\rngQ e=true/\V6a e=true
 | [],_,_,_,e,he=>by cases he
 | x::l,i,last,h,e,he=>by
  rw[QZa]at h;split at h
  .cases h
  rename_i h1;split at h
  .cases h
  rename_i h2;split at h
  .cases h
  rename_i h3;split at h
  .cases h
  rename_i h4;simp at h1 h2 h3 h4;rcases List.mem_cons.1 he with rfl | he
  .exact ⟨h1,by omega,by omega,h3,h4⟩
  obtain ⟨a,b,c⟩:=W5a h e he;exact ⟨a,by omega,c⟩
theorem qNb{nx:Int}:∀{l:List zca} {i:Nat} {last:Int},queR nx i last l=none->l.Pairwise (fun a b=>a.Id < b.Id)
 | [],_,_,_=>List.Pairwise.nil
 | x::l,i,last,h=>by
  rw[QZa]at h;split at h
  .cases h
  split at h
  .cases h
  split at h
  .cases h
  split at h
  .cases h
  exact List.pairwise_cons.2 ⟨fun e he=>(W5a h e he).2.1,qNb h⟩
structure QueOk (q:zza):Prop where
 n:q.Entries.length<=20
 nx:0<=q.Next/\q.Next<=1000000
 ent:∀e∈q.Entries,(yLa e.Mail).Code=0/\0<=e.Id/\e.Id < q.Next/\rngQ e=true/\V6a e=true
 ids:q.Entries.Pairwise (fun a b=>a.Id < b.Id)
theorem W6a{q:zza}(h:(queF q).Code=0):QueOk q/\queF q=⟨0,0⟩:=by
 unfold queF at h ⊢;by_cases h20:20 < q.Entries.length
 .rw[if_pos h20]at h;cases h
 rw[if_neg h20]at h ⊢;cases hn:decide (q.Next < 0) || decide (1000000 < q.Next) with
 | true=>rw[hn]at h;cases h
 | false=>
  rw[hn]at h;simp only[Bool.false_eq_true,if_false]at h ⊢;cases hr:queR q.Next 0 (-1) q.Entries with
  | none=>
   refine ⟨⟨by omega,by simp at hn;omega,fun e he=>?_,qNb hr⟩,rfl⟩;obtain ⟨a,b,c⟩:=W5a hr e he;exact ⟨a,by omega,c⟩
  | some f=>
   exfalso;rw[hr]at h;simp only[Option.getD_some]at h;have aux:∀(l:List zca) (i:Nat) (last:Int),queR q.Next i last l=some f->f.Code≠0:=by
    intro l;induction l with
    | nil=>intro i last hh;cases hh
    | cons x l ih=>
     intro i last hh;rw[QZa]at hh;split at hh
     .rename_i h1;cases hh;simpa using h1
     split at hh
     .cases hh;show (19:Int)≠0;decide
     split at hh
     .cases hh;show (3:Int)≠0;decide
     split at hh
     .cases hh;show (5:Int)≠0;decide
     exact ih _ _ hh
   exact aux _ _ _ hr h
theorem kjb(q:zza)(m:kca)(now:Int)(hq:jfa q)(hm:vTa m):Z5a q m now=some (addP q m now):=by
 unfold Z5a addP;rw[j6a q hq];simp only[Option.bind_some,z6a,zMa,kEa,wTa];by_cases hc:(queF q).Code=0
 .obtain ⟨ok,hF⟩:=W6a hc;have h1:((queF q).Code !=0)=false:=by simp[hc]
  have hn:=ok.n;have hnx:=ok.nx;have hto:=hm.1.2.2.1;rw[h1,yaa m hm.1 hm.2];simp only[Option.bind_some,cond_false,Bool.false_eq_true,if_false];cases hmc:(yLa m).Code !=0 with
  | true=>rfl
  | false=>
   simp only[cond_false,Bool.false_eq_true,if_false];show (bif !joa now then _ else _)=_;cases joa now with
   | false=>rfl
   | true=>
    simp only[Bool.not_true,cond_false,Bool.false_eq_true,if_false];have e1:((bif ((q.Entries.length:Int)==20) then some true else some ((q.Next==1000000))):Option Bool)=some (decide (q.Entries.length=20∨q.Next=1000000)):=by
     by_cases h20:q.Entries.length=20
     .rw[h20];simp
     rw[show ((q.Entries.length:Int)==20)=false by rw[beq_eq_false_iff_ne];omega];simp only[cond_false,Option.some.injEq];rw[Bool.eq_iff_iff];simp[h20]
    rw[e1];simp only[Option.bind_some];by_cases hl:q.Entries.length=20∨q.Next=1000000
    .rw[decide_eq_true hl,if_pos hl];rfl
    rw[decide_eq_false hl,if_neg hl];simp only[cond_false];rw[vUa _ hq.1];simp only[Option.bind_some];rw[W4a _ hq];simp only[Option.bind_some];rw[j5a m hm,qib m hto];simp only[Option.bind_some,nall,if_true];rw[qva (by simp;omega),q7a (by omega) (by omega)];rfl
 have h1:((queF q).Code !=0)=true:=by simpa using hc
 rw[h1];rfl
theorem bindC{α β:Type}{o:Option α}{v:α}{f:α->Option β}{r:Option β}(h:o=some v)(h2:f v=r):o.bind f=r:=by rw[h];exact h2
theorem ycb(a b:List UInt8)(h:a.length+b.length<=35184372088832):kMa [a,b]=some (a++b):=by
 have l1:iter (kua [a,b]) (0,0)=some ((a.length+b.length:Nat):Int):=by
  have s1:kua [a,b] (0,0)=some (.cont ((a.length:Int),1)):=by
   show (bif decide (w64 ((0:Int)+(a.length:Int)) < 0) then none else some (Step.cont (w64 ((0:Int)+(a.length:Int)),w64 ((0:Int)+1))):Option (Step (Int × Int) Int))=_;rw[show w64 ((0:Int)+(a.length:Int))=(a.length:Int) by rw[q7a (by omega) (by omega)];omega,decide_eq_false (by omega)];rfl
  have s2:kua [a,b] ((a.length:Int),1)=some (.cont (((a.length+b.length:Nat):Int),2)):=by
   show (bif decide (w64 ((a.length:Int)+(b.length:Int)) < 0) then none else some (Step.cont (w64 ((a.length:Int)+(b.length:Int)),w64 ((1:Int)+1))):Option (Step (Int × Int) Int))=_;rw[z5b _ _ (by omega),decide_eq_false (by omega)];rfl
  rw[zTa s1,zTa s2];exact zEa rfl
 have hl2:∀s:List UInt8,s.length=0->iter (kva [a,b]) (0,s)=some (a++b):=by
  intro s hs;have hs0:s=[]:=List.eq_nil_of_length_eq_zero hs;subst hs0;have s1:kva [a,b] (0,[])=some (.cont (1,a)):=by
   show ((app 140737488355328 [] a).bind fun v20=>some (Step.cont (w64 ((0:Int)+1),v20)):Option (Step (Int × List UInt8) (List UInt8)))=_;rw[qva (by simp;omega)];rfl
  have s2:kva [a,b] (1,a)=some (.cont (2,a++b)):=by
   show ((app 140737488355328 a b).bind fun v20=>some (Step.cont (w64 ((1:Int)+1),v20)):Option (Step (Int × List UInt8) (List UInt8)))=_;rw[qva (by omega)];rfl
  rw[zTa s1,zTa s2];exact zEa rfl
 unfold kMa;rw[l1];simp only[Option.bind_some];rw[decide_eq_false (show ¬((a.length+b.length:Nat):Int) < 0 by omega),show w64 (((a.length+b.length:Nat):Int) - w64 (0 - 0))=((a.length+b.length:Nat):Int) by rw[show w64 (0 - 0)=0 from rfl,q7a (by omega) (by omega)];omega];simp only[cond_false];by_cases h0:a.length+b.length=0
 .rw[decide_eq_false (by omega)];have e1:a=[]:=List.eq_nil_of_length_eq_zero (by omega);have e2:b=[]:=List.eq_nil_of_length_eq_zero (by omega);subst e1;subst e2;simp only[cond_false];refine bindC (v:=[]) ?_ rfl;rw[zTa (show kRa [([]:List UInt8),[]] (0,[])=some (.cont (1,[])) from rfl),zTa (show kRa [([]:List UInt8),[]] (1,[])=some (.cont (2,[])) from rfl)];exact zEa rfl
 rw[decide_eq_true (by omega)];simp only[cond_true];unfold zrep;rw[if_pos (by omega)];simp only[Option.bind_some];rw[show cut (List.replicate ((a.length+b.length:Nat):Int).toNat (0:UInt8)) 0 0=some [] from (KXa (b:=0) (by simp)).trans (by simp)];simp only[Option.bind_some];rw[hl2 [] rfl];rfl
def spR(r:zba):List UInt8:=encT r.Address++num8 r.Notify
def spF(f:zea):List UInt8:=encT f.Name++encT f.Value
def spRs(l:List zba):List UInt8:=num8 (l.length:Int)++l.flatMap spR
def spFs(l:List zea):List UInt8:=num8 (l.length:Int)++l.flatMap spF
def spM(m:kca):List UInt8:=encT m.Envelope.From++spRs m.Envelope.To++encT m.Envelope.Id++spFs m.Message.Fields++encT m.Message.Body
def spA(r:zha):List UInt8:=num8 r.Attempt.Entry++encT r.Attempt.Domain++WWa r.Attempt.To++WWa r.Results
def spB(r:zha):List UInt8:=num8 r.Kind++num8 r.Now++(if r.Kind==1 then spM r.Mail else spA r)
def spE(r:zha):List UInt8:=encT (spB r)++num8 (w64 (sumB (spB r)))
structure kza (r:zha):Prop where
 mail:vTa r.Mail
 dom:r.Attempt.Domain.length<=1048576
 to:r.Attempt.To.length<=1048576
 res:r.Results.length<=1048576
theorem zfb{α:Type}(f:α->List UInt8)(B:Nat):∀l:List α,(∀x∈l,(f x).length<=B)->(l.flatMap f).length<=l.length * B
 | [],_=>by simp
 | x::l,h=>by
  have h1:=zfb f B l (fun y hy=>h y (by simp[hy]));have h2:=h x (by simp);rw[List.flatMap_cons,List.length_append,List.length_cons,Nat.add_mul];omega
theorem ydb{r:zba}(h:r.Address.length<=1048576):(spR r).length<=2097152:=by
 unfold spR;rw[List.length_append,qWa,kna];omega
theorem yeb{f:zea}(h1:f.Name.length<=1048576)(h2:f.Value.length<=1048576):(spF f).length<=4194304:=by
 unfold spF;rw[List.length_append,qWa,qWa];omega
theorem jga{m:kca}(h:vTa m):m.Envelope.To.length<=1048576/\∀r∈m.Envelope.To,r.Address.length<=1048576:=by
 have:=h.1.2.2;exact ⟨this.1,this.2⟩
theorem j7a{m:kca}(h:vTa m):m.Message.Fields.length<=1048576/\∀f∈m.Message.Fields,f.Name.length<=1048576/\f.Value.length<=1048576:=by
 have:=h.2.1;exact ⟨this.1,this.2⟩
theorem qOb{m:kca}(h:vTa m):(spRs m.Envelope.To).length<=2199023255560:=by
 obtain ⟨h1,h2⟩:=jga h;have:=zfb spR 2097152 m.Envelope.To (fun r hr=>ydb (h2 r hr));unfold spRs;rw[List.length_append,kna];have h3:=Nat.mul_le_mul_right 2097152 h1;omega
theorem qPb{m:kca}(h:vTa m):(spFs m.Message.Fields).length<=4398046511112:=by
 obtain ⟨h1,h2⟩:=j7a h;have:=zfb spF 4194304 m.Message.Fields (fun f hf=>yeb (h2 f hf).1 (h2 f hf).2);unfold spFs;rw[List.length_append,kna];have h3:=Nat.mul_le_mul_right 4194304 h1;omega
theorem yfb(l:List Int):(WWa l).length=8+8 * l.length:=by
 unfold WWa;rw[List.length_append,kna,Z9a]
theorem qjb{r:zha}(h:kza r):(spB r).length<=17592186044416:=by
 have h1:=qOb h.mail;have h2:=qPb h.mail;have h3:=h.mail.1.1;have h4:=h.mail.1.2.1;have h5:=h.mail.2.2;have h6:=h.dom;have h7:=h.to;have h8:=h.res;unfold spB;split
 .unfold spM;simp only[List.length_append,kna,qWa];omega
 unfold spA;simp only[List.length_append,kna,qWa,yfb];omega
theorem zgb{α:Type}(l:List α)(f:α->List UInt8)(B0 B:Nat)(hB:B0+l.length * B<=26388279066624)(hf:∀x∈l,(f x).length<=B){A:Type}(mk:List UInt8->A){body:Int × A->Option (Step (Int × A) A)}
 (h0:∀s,body ((l.length:Int),mk s)=some (.out (mk s))) (h1:∀(i:Nat) x s,l[i]? =some x->s.length<=26388279066624->body ((i:Int),mk s)=some (.cont (((i+1:Nat):Int),mk (s++f x)))) (s:List UInt8) (hs:s.length<=B0):
 iter body (0,mk s)=some (mk (s++l.flatMap f)):=by
 refine Vxa l (fun n (s:List UInt8)=>((n:Int),mk s)) (fun n r s=>mk (s++r.flatMap f)) (fun n r s=>s.length<=B0+n * B) (fun s _=>?_) (fun p x r s hp hi=>.inr ?_) s rfl (by simpa using hs)
 .rw[h0];simp
 have hx:l[p.length]? =some x:=by rw[hp];simp
 have hlt:=zYa hx;have hm:p.length * B<=l.length * B:=Nat.mul_le_mul_right _ (by omega);have hfx:=hf x (List.mem_of_getElem? hx);refine ⟨s++f x,h1 _ x s hx (by omega),by simp,?_⟩;rw[List.length_append,Nat.add_mul];omega
theorem wnum8(n:Int)(o:List UInt8)(h:o.length<=70368744177664):iter (kaa n) (0,zma.mk o)=some ⟨o++num8 n⟩:=by
 have:=z7b n rfl 8 0 o rfl (by omega);rw[show iter (kaa n) (0,zma.mk o)=_ from this];simp[num8]
theorem zhb(r:zha)(h:kza r):j2a r=some (spB r):=by
 obtain ⟨t1,t2⟩:=jga h.mail;obtain ⟨f1,f2⟩:=j7a h.mail;have l1:=qOb h.mail;have l2:=qPb h.mail;have h3:=h.mail.1.1;have h4:=h.mail.1.2.1;have h5:=h.mail.2.2;have h6:=h.dom;have h7:=h.to;have h8:=h.res;unfold j2a spB;rw[zVa _ _ (by simp)];simp only[Option.bind_some,List.nil_append];rw[zVa _ _ (by rw[kna];omega)];simp only[Option.bind_some];have c0:(num8 r.Kind++num8 r.Now).length=16:=by rw[List.length_append,kna,kna]
 generalize num8 r.Kind++num8 r.Now=o at c0;cases hk:r.Kind==1 with
 | true=>
  simp only[cond_true,if_true];rw[kla _ _ (by dsimp only;omega) (by omega)];simp only[Option.bind_some];have c1:(o++encT r.Mail.Envelope.From).length<=1048600:=by rw[List.length_append,qWa];omega
  rw[zVa _ _ (by dsimp only;omega)];simp only[Option.bind_some];have c2:(o++encT r.Mail.Envelope.From++num8 (r.Mail.Envelope.To.length:Int)).length<=1048608:=by rw[List.length_append,kna];omega
  have m1:=Nat.mul_le_mul_right 2097152 t1;rw[zgb r.Mail.Envelope.To spR 1048608 2097152 (by omega) (fun x hx=>ydb (t2 x hx)) zma.mk (body:=wNa r) (fun s=>by unfold wNa;dsimp only;rw[zQa];rfl) (fun i x s hx hs=>by
   have hi:=zYa hx;have hxa:=t2 x (List.mem_of_getElem? hx);unfold wNa;dsimp only;rw[kfa hx,zwa hx];simp only[cond_true,Option.bind_some];rw[kla _ _ (by dsimp only;omega) (by omega)];simp only[Option.bind_some];rw[zVa _ _ (by dsimp only;rw[List.length_append,qWa];omega)];simp only[Option.bind_some,sc i (by omega)];unfold spR;rw[List.append_assoc]) _ c2]
  simp only[Option.bind_some];have c3:(o++encT r.Mail.Envelope.From++num8 (r.Mail.Envelope.To.length:Int)++r.Mail.Envelope.To.flatMap spR).length<=2199024304200:=by
   unfold spRs at l1;rw[List.length_append]at l1;rw[List.length_append];omega
  rw[kla _ _ (by dsimp only;omega) (by omega)];simp only[Option.bind_some];rw[zVa _ _ (by dsimp only;rw[List.length_append,qWa];omega)];simp only[Option.bind_some];have m2:=Nat.mul_le_mul_right 4194304 f1;rw[zgb r.Mail.Message.Fields spF 2199025352800 4194304 (by omega) (fun x hx=>yeb (f2 x hx).1 (f2 x hx).2) zma.mk (body:=wOa r) (fun s=>by unfold wOa;dsimp only;rw[zQa];rfl) (fun i x s hx hs=>by
   have hi:=zYa hx;obtain ⟨hx1,hx2⟩:=f2 x (List.mem_of_getElem? hx);unfold wOa;dsimp only;rw[kfa hx,zwa hx];simp only[cond_true,Option.bind_some];rw[kla _ _ (by dsimp only;omega) (by omega)];simp only[Option.bind_some];rw[kla _ _ (by dsimp only;rw[List.length_append,qWa];omega) (by omega)];simp only[Option.bind_some,sc i (by omega)];unfold spF;rw[List.append_assoc]) _ (by rw[List.length_append,List.length_append,kna,qWa];omega)]
  simp only[Option.bind_some];rw[kla _ _ (by
   dsimp only;unfold spFs at l2;rw[List.length_append]at l2;simp only[List.length_append,kna,qWa]at c3 ⊢;omega) (by omega)]
  unfold spM spRs spFs;simp[List.append_assoc]
 | false=>
  simp only[cond_false,Bool.false_eq_true,if_false];rw[zVa _ _ (by dsimp only;omega)];simp only[Option.bind_some];rw[kla _ _ (by dsimp only;rw[List.length_append,kna];omega) (by omega)];simp only[Option.bind_some];have c1:(o++num8 r.Attempt.Entry++encT r.Attempt.Domain).length<=1048700:=by simp only[List.length_append,kna,qWa];omega
  rw[zVa _ _ (by dsimp only;omega)];simp only[Option.bind_some];rw[zgb r.Attempt.To num8 1048800 8 (by omega) (fun x hx=>by rw[kna];omega) zma.mk (body:=wPa r) (fun s=>by unfold wPa;dsimp only;rw[zQa];rfl) (fun i x s hx hs=>by
   have hi:=zYa hx;unfold wPa;dsimp only;rw[kfa hx,zwa hx];simp only[cond_true,Option.bind_some];rw[show iter (Zqa x) (0,zma.mk s)=some ⟨s++num8 x⟩ from wnum8 x s (by omega)];simp only[Option.bind_some,sc i (by omega)]) _ (by rw[List.length_append,kna];omega)]
  simp only[Option.bind_some];rw[zVa _ _ (by dsimp only;rw[List.length_append,List.length_append,kna,Z9a];omega)];simp only[Option.bind_some];rw[zgb r.Results num8 9437500 8 (by omega) (fun x hx=>by rw[kna];omega) zma.mk (body:=wQa r) (fun s=>by unfold wQa;dsimp only;rw[zQa];rfl) (fun i x s hx hs=>by
   have hi:=zYa hx;unfold wQa;dsimp only;rw[kfa hx,zwa hx];simp only[cond_true,Option.bind_some];rw[show iter (Zra x) (0,zma.mk s)=some ⟨s++num8 x⟩ from wnum8 x s (by omega)];simp only[Option.bind_some,sc i (by omega)]) _ (by simp only[List.length_append,kna,Z9a]at c1 ⊢;omega)]
  unfold spA WWa;simp[List.append_assoc]
theorem jha(r:zha)(h:kza r):wva r=some (spE r):=by
 have hl:=qjb h;unfold wva spE;rw[zhb r h];simp only[Option.bind_some];rw[kla _ _ (by simp) (by omega)];simp only[Option.bind_some];rw[VTa _ (by omega)];simp only[Option.bind_some];rw[zVa _ _ (by dsimp only;rw[List.length_append,qWa];simp;omega)];rfl
theorem Jma{K V:Type}[BEq K][LawfulBEq K](m:List (K × V))(k:K)(v:V)(x:K):mget (mput m k v) x=if k==x then some v else mget m x:=by
 induction m with
 | nil=>rfl
 | cons p m ih=>
  obtain ⟨k',v'⟩:=p;unfold mput;by_cases h:k' =k
  .subst h;simp only[beq_self_eq_true,if_true,mget];cases k' ==x <;> simp
  have h1:(k' ==k)=false:=by simpa using h
  rw[h1];simp only[Bool.false_eq_true,if_false,mget];rw[ih];by_cases h2:k' =x
  .subst h2;have:(k==k')=false:=by simpa using fun h' =>h h'.symm
   simp[this]
  have:(k' ==x)=false:=by simpa using h2
  rw[this];simp
def wDom(w:zia):Str:=qfb w.Recipient.Address
def Kfa(l:List zia):Prop:=l.length<=1048576/\∀w∈l,w.Recipient.Address.length<=1048576
def uwL(l:List zia)(d:Str):Bool:=l.any fun w=>w.Busy && wDom w==d
def uwP(e:zca)(d:Str):Bool:=uwL e.To d
def Qia(l:List zca)(d:Str):Nat:=l.countP fun e=>uwP e d
theorem Kga(s:Str)(h:s.length<=1048576):vOa s=some (qfb s):=by
 unfold vOa;rw[j4a s (by omega)];simp only[Option.bind_some,vHb]
theorem ygb(l:List zca)(d:Str):Qia l d<=l.length:=List.countP_le_length
theorem vKb(e:zca)(h:Kfa e.To)(u0:List ((Int × Str) × Bool))(m0:List (Str × Int))(hu:∀d,(mget u0 (e.Id,d)).getD false=false)(hm:∀d,0<=(mget m0 d).getD 0/\(mget m0 d).getD 0<=1048576):
 ∃u m,iter (vva e) (0,u0,m0)=some (u,m)/\(∀id d,(mget u (id,d)).getD false=(id==e.Id && uwP e d || (mget u0 (id,d)).getD false))/\∀d,(mget m d).getD 0=(mget m0 d).getD 0+(if uwP e d then 1 else 0):=by
 have h0:=h.1;have key:∀r p u m,e.To=p++r->(∀id d,(mget u (id,d)).getD false=(id==e.Id && uwL p d || (mget u0 (id,d)).getD false))->(∀d,(mget m d).getD 0=(mget m0 d).getD 0+(if uwL p d then 1 else 0))->
  ∃u2 m2,iter (vva e) ((p.length:Int),u,m)=some (u2,m2)/\(∀id d,(mget u2 (id,d)).getD false=(id==e.Id && uwP e d || (mget u0 (id,d)).getD false))/\∀d,(mget m2 d).getD 0=(mget m0 d).getD 0+(if uwP e d then 1 else 0):=by
  intro r;induction r with
  | nil=>
   intro p u m hp h1 h2;obtain rfl:e.To=p:=by simpa using hp
   refine ⟨u,m,zEa ?_,h1,h2⟩;unfold vva;dsimp only;rw[zQa];rfl
  | cons w r ih=>
   intro p u m hp h1 h2;have hx:e.To[p.length]? =some w:=by rw[hp];simp
   have hlt:=zYa hx;have hun:∀d,uwL (p++ [w]) d=(uwL p d || (w.Busy && wDom w==d)):=fun d=>by unfold uwL;simp
   have hb:vva e ((p.length:Int),u,m)=some (.cont (((p.length+1:Nat):Int),if w.Busy && !uwL p (wDom w) then mput u (e.Id,wDom w) true else u,if w.Busy && !uwL p (wDom w) then mput m (wDom w) ((mget m (wDom w)).getD 0+1) else m)):=by
    unfold vva;dsimp only;rw[kfa hx,zwa hx];simp only[cond_true,Option.bind_some,Kga _ (h.2 w (List.mem_of_getElem? hx)),sc _ (show p.length < 9223372036854775807 by omega)];have e1:(mget u (e.Id,qfb w.Recipient.Address)).getD false=uwL p (wDom w):=by
     have:=h1 e.Id (wDom w);rw[hu]at this;have h3:(mget u (e.Id,wDom w)).getD false=uwL p (wDom w):=by simpa using this
     exact h3
    rw[e1];have e2:w64 ((mget m (qfb w.Recipient.Address)).getD 0+1)=(mget m (wDom w)).getD 0+1:=by
     have:=h2 (wDom w);have:=hm (wDom w);refine q7a ?_ ?_
     .show _<=(mget m (wDom w)).getD 0+1;split at * <;> omega
     show (mget m (wDom w)).getD 0+1<=_;split at * <;> omega
    rw[e2];cases w.Busy <;> cases uwL p (wDom w) <;> rfl
   rw[zTa hb];have:=ih (p++ [w]) (if w.Busy && !uwL p (wDom w) then mput u (e.Id,wDom w) true else u) (if w.Busy && !uwL p (wDom w) then mput m (wDom w) ((mget m (wDom w)).getD 0+1) else m) (by simp[hp]) (fun id d=>by
    rw[hun];cases hc:w.Busy && !uwL p (wDom w) with
    | true=>
     simp only[Bool.and_eq_true,Bool.not_eq_true']at hc;rw[if_pos rfl,Jma];by_cases hk:(e.Id,wDom w)=(id,d)
     .cases hk;simp[hc.1]
     have hk' :((e.Id,wDom w)==(id,d))=false:=beq_eq_false_iff_ne.2 hk;rw[hk'];simp only[Bool.false_eq_true,if_false];rw[h1];by_cases hi:id=e.Id
     .subst hi;have hd:(wDom w==d)=false:=beq_eq_false_iff_ne.2 fun h=>hk (by rw[h])
      simp[hd]
     have:(id==e.Id)=false:=beq_eq_false_iff_ne.2 hi;simp[this]
    | false=>
     rw[if_neg (by decide),h1];cases hbz:w.Busy with
     | false=>simp
     | true=>
      rw[hbz]at hc;simp only[Bool.true_and,Bool.not_eq_eq_eq_not,Bool.not_false]at hc;by_cases hd:wDom w=d
      .subst hd;simp[hc]
      have:(wDom w==d)=false:=beq_eq_false_iff_ne.2 hd;simp[this]) (fun d=>by
    rw[hun];cases hc:w.Busy && !uwL p (wDom w) with
    | true=>
     simp only[Bool.and_eq_true,Bool.not_eq_true']at hc;rw[if_pos rfl,Jma];by_cases hk:wDom w=d
     .subst hk;simp only[beq_self_eq_true,if_true,Option.getD_some];rw[h2,hc.1,hc.2];simp
     have hk' :(wDom w==d)=false:=beq_eq_false_iff_ne.2 hk;rw[hk'];simp only[Bool.false_eq_true,if_false];rw[h2];simp
    | false=>
     rw[if_neg (by decide),h2];cases hbz:w.Busy with
     | false=>simp
     | true=>
      rw[hbz]at hc;simp only[Bool.true_and,Bool.not_eq_eq_eq_not,Bool.not_false]at hc;by_cases hd:wDom w=d
      .subst hd;simp[hc]
      have:(wDom w==d)=false:=beq_eq_false_iff_ne.2 hd;simp[this])
   simpa using this
 exact key e.To [] u0 m0 rfl (fun id d=>by simp[uwL]) (fun d=>by simp[uwL])
theorem busy_eq(q:zza)(hl:q.Entries.length<=20)(h:∀e∈q.Entries,Kfa e.To)(hid:q.Entries.Pairwise (fun a b=>a.Id < b.Id)):
 ∃u m,iter (wga q) (0,([]:List ((Int × Str) × Bool)),([]:List (Str × Int)))=some (u,m)/\(∀id d,(mget u (id,d)).getD false=q.Entries.any fun e=>id==e.Id && uwP e d)/\∀d,(mget m d).getD 0=(Qia q.Entries d:Int):=by
 have key:∀r p u m,q.Entries=p++r->(∀id d,(mget u (id,d)).getD false=p.any fun e=>id==e.Id && uwP e d)->(∀d,(mget m d).getD 0=(Qia p d:Int))->
  ∃u2 m2,iter (wga q) ((p.length:Int),u,m)=some (u2,m2)/\(∀id d,(mget u2 (id,d)).getD false=q.Entries.any fun e=>id==e.Id && uwP e d)/\∀d,(mget m2 d).getD 0=(Qia q.Entries d:Int):=by
  intro r;induction r with
  | nil=>
   intro p u m hp h1 h2;have hp' :q.Entries=p:=by simpa using hp
   refine ⟨u,m,zEa ?_,by rw[hp'];exact h1,by rw[hp'];exact h2⟩;unfold wga;dsimp only;rw[<-hp',zQa];rfl
  | cons e r ih=>
   intro p u m hp h1 h2;have hx:q.Entries[p.length]? =some e:=by rw[hp];simp
   have hlt:=zYa hx;obtain ⟨u',m',hin,i1,i2⟩:=vKb e (h e (List.mem_of_getElem? hx)) u m (fun d=>by
    rw[h1,List.any_eq_false];intro x hxp hc;rw[hp,List.pairwise_append]at hid;have:=hid.2.2 x hxp e (by simp);simp at hc;omega) (fun d=>by
    rw[h2];have:=ygb p d;have:p.length<=20:=by rw[hp]at hl;simp at hl;omega
    omega)
   have hb:wga q ((p.length:Int),u,m)=some (.cont (((p.length+1:Nat):Int),u',m')):=by
    unfold wga;dsimp only;rw[kfa hx,zwa hx];simp only[cond_true,Option.bind_some,hin,sc _ (show p.length < 9223372036854775807 by omega)]
   rw[zTa hb];have:=ih (p++ [e]) u' m' (by simp[hp]) (fun id d=>by
    rw[i1,h1,List.any_append];simp[Bool.or_comm]) (fun d=>by
    have e1:Qia (p++ [e]) d=Qia p d+(if uwP e d then 1 else 0):=by
     unfold Qia;rw[List.countP_append,List.countP_cons,List.countP_nil];simp
    rw[i2,h2,e1];split <;> simp)
   simpa using this
 exact key q.Entries [] [] [] rfl (fun id d=>by simp[mget]) (fun d=>by simp[mget,Qia])
section
section
variable {α:Type} (key:α->Int)
end
end
theorem id_inj:∀{l:List zca},l.Pairwise (fun a b=>a.Id < b.Id)->∀x∈l,∀y∈l,x.Id=y.Id->x=y
 | [],_,x,hx,_,_,_=>by cases hx
 | a::l,h,x,hx,y,hy,he=>by
  obtain ⟨h1,h2⟩:=List.pairwise_cons.1 h;rcases List.mem_cons.1 hx with rfl | hx' <;> rcases List.mem_cons.1 hy with rfl | hy'
  .rfl
  .have:=h1 y hy';omega
  .have:=h1 x hx';omega
  exact id_inj h2 x hx' y hy' he
def yAa(q:zza):Prop:=∀e∈q.Entries,Kfa e.To
def posI(l:List zca)(id:Int):Int:=(kba (fun i x=>if x.Id==id then some ((i:Nat):Int) else none) 0 l).getD (-1)
theorem yhb(l:List zca)(id:Int):(posI l id= -1/\∀x∈l,x.Id≠id)∨∃(n:Nat) (x:zca),posI l id=(n:Int)/\l[n]? =some x/\x.Id=id:=by
 unfold posI;cases hf:kba (fun i x=>if x.Id==id then some ((i:Nat):Int) else none) 0 l with
 | none=>
  left;refine ⟨rfl,fun x hx he=>?_⟩;rw[vka]at hf;obtain ⟨i,hi⟩:=List.mem_iff_getElem?.1 hx;have:=hf i x hi;simp[he]at this
 | some z=>
  right;obtain ⟨i,x,h1,h2⟩:=Zva hf;by_cases he:x.Id=id
  .simp[he]at h2;exact ⟨i,x,by simp[<-h2],h1,he⟩
  simp[he]at h2
def toR(e:zca)(dom:Str)(on:Bool):Nat->Int->List Int->Option zqa
 | _,_,[]=>none
 | i,last,k::r=>if decide (k<=last) || decide ((e.To.length:Int)<=k) then some ⟨3,i⟩ else match e.To[k.toNat]? with
  | none=>none
  | some w=>if wDom w !=dom then some ⟨5,i⟩ else if w.Result !=0 || w.Busy !=on then some ⟨8,i⟩ else toR e dom on (i+1) k r
def attP(q:zza)(a:zva)(on:Bool):Int × zqa:=
 if posI q.Entries a.Entry= -1 then (0,⟨6, -3⟩) else match q.Entries[(posI q.Entries a.Entry).toNat]? with
  | none=>(0,⟨6, -3⟩)
  | some e=>if a.To.length=0∨e.To.length < a.To.length then (0,⟨2, -4⟩) else match toR e a.Domain on 0 (-1) a.To with
   | some f=>(0,f)
   | none=>(posI q.Entries a.Entry,⟨0,0⟩)
theorem att_loop(e:zca)(a:zva)(on:Bool)(he:Kfa e.To)(hl:a.To.length<=1048576):∀(r p:List Int) (last:Int),a.To=p++r->(p=[]/\last= -1∨0<=last/\∃p',p=p' ++ [last])->
 iter (kPa a on e) (p.length:Int)=some (match toR e a.Domain on p.length last r with | some f=>.inr (0,f) | none=>.inl ()):=by
 intro r;have h0:=he.1;induction r with
 | nil=>
  intro p last hp hc;have hp' :a.To=p:=by simpa using hp
  refine zEa ?_;unfold kPa;rw[<-hp',zQa];rfl
 | cons k r ih=>
  intro p last hp hc;have hx:a.To[p.length]? =some k:=by rw[hp];simp
  have hlt:=zYa hx;have hcond:((bif decide (k < 0) then some true else (bif decide ((e.To.length:Int)<=k) then some true else (bif decide (0 < (p.length:Int)) then (idx a.To ((w64 ((p.length:Int) - 1)))).bind fun v38=>some (decide (k<=v38)) else some false))):Option Bool)=some (decide (k<=last) || decide ((e.To.length:Int)<=k)):=by
   rcases hc with ⟨rfl,rfl⟩ | ⟨hl0,p',rfl⟩
   .have:decide (k < 0)=decide (k<= -1):=by congr 1;apply propext;omega
    rw[this];simp only[List.length_nil];cases decide (k<= -1) <;> cases decide ((e.To.length:Int)<=k) <;> rfl
   have h1:decide (0 < (((p' ++ [last]).length:Nat):Int))=true:=decide_eq_true (by rw[List.length_append,List.length_singleton];omega);have h2:idx a.To ((w64 (((p' ++ [last]).length:Int) - 1)))=some last:=by
    rw[show (((p' ++ [last]).length:Int) - 1)=(p'.length:Int) by simp,YBa _ (by simp at hlt;omega)];rw[Vwa,hp];simp
   rw[h1,h2];simp only[cond_true,Option.bind_some];by_cases hk:k < 0
   .rw[decide_eq_true hk,decide_eq_true (show k<=last by omega)];rfl
   rw[decide_eq_false hk];cases decide ((e.To.length:Int)<=k) <;> cases decide (k<=last) <;> rfl
  unfold toR;cases hq:decide (k<=last) || decide ((e.To.length:Int)<=k) with
  | true=>
   rw[if_pos rfl];refine zEa ?_;unfold kPa;rw[kfa hx,zwa hx];simp only[cond_true,Option.bind_some];rw[hcond,hq];rfl
  | false=>
   rw[if_neg (by decide)];simp at hq;have hlast: -1<=last:=by rcases hc with ⟨_,rfl⟩ | ⟨h,_⟩ <;> omega
   obtain ⟨kn,rfl⟩:∃kn:Nat,k=(kn:Int):=⟨k.toNat,by omega⟩;have hkl:kn < e.To.length:=by omega
   have hw:e.To[kn]? =some e.To[kn]:=List.getElem?_eq_getElem hkl;generalize e.To[kn]=w at hw;have hmem:=List.mem_of_getElem? hw;have hqf:(decide ((kn:Int)<=last) || decide ((e.To.length:Int)<=(kn:Int)))=false:=by simp;omega
   have hb:kPa a on e (p.length:Int)=some (if wDom w !=a.Domain then .out (.inr (0,⟨5,p.length⟩)) else if w.Result !=0 || w.Busy !=on then .out (.inr (0,⟨8,p.length⟩)) else .cont ((p.length+1:Nat):Int)):=by
    unfold kPa;rw[kfa hx,zwa hx];simp only[cond_true,Option.bind_some];rw[hcond,hqf];simp only[Option.bind_some,cond_false,zwa hw,Kga _ (he.2 w hmem),zMa,sc _ (show p.length < 9223372036854775807 by omega)];show _=some (if wDom w !=a.Domain then _ else _);unfold wDom;cases (qfb w.Recipient.Address !=a.Domain) <;> cases (w.Result !=0) <;> cases (w.Busy !=on) <;> rfl
   simp only[Int.toNat_natCast,hw];cases h1:wDom w !=a.Domain with
   | true=>rw[h1]at hb;rw[zEa hb];rfl
   | false=>
    rw[h1]at hb;cases h2:w.Result !=0 || w.Busy !=on with
    | true=>rw[h2]at hb;rw[zEa hb];rfl
    | false=>
     rw[h2]at hb;simp only[Bool.false_eq_true,if_false]at hb ⊢;rw[zTa hb];have:=ih (p++ [(kn:Int)]) (kn:Int) (by simp[hp]) (.inr ⟨by omega,p,rfl⟩);simpa using this
theorem ZHa(q:zza)(a:zva)(on:Bool)(hq:jfa q)(hw:yAa q)(hl:a.To.length<=1048576):v2a q a on=some (if (queF q).Code !=0 then (0,queF q) else attP q a on):=by
 unfold v2a attP;rw[j6a q hq];simp only[Option.bind_some,z6a,zMa,kEa];by_cases hc:(queF q).Code=0
 .obtain ⟨ok,hF⟩:=W6a hc;have hn:=ok.n;have h1:((queF q).Code !=0)=false:=by simp[hc]
  rw[h1];simp only[cond_false,Bool.false_eq_true,if_false];have hpos:((iter (vqa q a) 0).bind (Sum.elim (fun b8=>some ((-1))) (fun b9=>some b9)):Option Int)=some (posI q.Entries a.Entry):=by
   rw[z0a q.Entries (fun i x=>if x.Id==a.Entry then some ((i:Nat):Int) else none) (.inl ()) .inr]
   .simp only[Option.bind_some,QQa];rfl
   .unfold vqa;rw[zQa];rfl
   intro i x hx;have hi:=zYa hx;unfold vqa;rw[kfa hx,zwa hx];simp only[cond_true,Option.bind_some,sc i (by omega)];cases x.Id==a.Entry <;> rfl
  rw[hpos];simp only[Option.bind_some];rcases yhb q.Entries a.Entry with ⟨h2,_⟩ | ⟨n,e,h2,h3,h4⟩
  .rw[h2];rfl
  rw[h2];have hlt:=zYa h3;rw[decide_eq_false (show ¬((n:Int) < 0) by omega),if_neg (by omega),zwa h3];simp only[cond_false,Option.bind_some,Int.toNat_natCast,h3];have e1:((bif ((a.To.length:Int)==0) then some true else some (decide ((e.To.length:Int) < (a.To.length:Int)))):Option Bool)=some (decide (a.To.length=0∨e.To.length < a.To.length)):=by
   by_cases h0:a.To.length=0
   .rw[h0];simp
   rw[show ((a.To.length:Int)==0)=false by rw[beq_eq_false_iff_ne];omega];simp only[cond_false,Option.some.injEq]
   congr 1;apply propext;omega
  rw[e1];simp only[Option.bind_some];by_cases h5:a.To.length=0∨e.To.length < a.To.length
  .rw[decide_eq_true h5,if_pos h5];rfl
  rw[decide_eq_false h5,if_neg h5];simp only[cond_false];have:=att_loop e a on (hw e (List.mem_of_getElem? h3)) hl a.To [] (-1) rfl (.inl ⟨rfl,rfl⟩);rw[show iter (kPa a on e) 0=_ from this];simp only[List.length_nil];cases toR e a.Domain on 0 (-1) a.To <;> rfl
 have h1:((queF q).Code !=0)=true:=by simpa using hc
 rw[h1];rfl
def wTo(e:zca)(T:List zia):zca:=⟨e.Id,e.Mail,e.Since,e.Tries,e.Due,T⟩
def onK(T:List zia)(k:Int):List zia:=match T[k.toNat]? with
 | some w=>T.set k.toNat ⟨w.Recipient,w.Result,true⟩
 | none=>T
theorem qkb(T:List zia)(k:Int):(onK T k).length=T.length:=by unfold onK;split <;> simp
theorem qQb(e:zca)(dom:Str)(on:Bool):∀(ks:List Int) (i:Nat) (last:Int) (f:zqa),toR e dom on i last ks=some f->f.Code≠0
 | [],_,_,_,h=>by cases h
 | k::ks,i,last,f,h=>by
  unfold toR at h;split at h
  .cases h;simp
  split at h
  .cases h
  split at h
  .cases h;simp
  split at h
  .cases h;simp
  exact qQb e dom on ks _ _ _ h
theorem zib(e:zca)(dom:Str)(on:Bool):∀(ks:List Int) (i:Nat) (last:Int), -1<=last->toR e dom on i last ks=none->∀k∈ks,last < k/\k < (e.To.length:Int)/\∃w,e.To[k.toNat]? =some w/\wDom w=dom/\w.Result=0/\w.Busy=on
 | [],_,_,_,_,k,hk=>by cases hk
 | k::ks,i,last,hl,h,x,hx=>by
  unfold toR at h;split at h
  .cases h
  rename_i h1;simp at h1;have hkl:k.toNat < e.To.length:=by omega
  rw[List.getElem?_eq_getElem hkl]at h;generalize hw:e.To[k.toNat]=w at h;dsimp only at h;split at h
  .cases h
  rename_i h2;split at h
  .cases h
  rename_i h3;simp at h2 h3;rcases List.mem_cons.1 hx with rfl | hx
  .exact ⟨by omega,by omega,w,by rw[List.getElem?_eq_getElem hkl,hw],h2,h3.1,h3.2⟩
  obtain ⟨a,b,c⟩:=zib e dom on ks _ k (by omega) h x hx;exact ⟨by omega,b,c⟩
theorem zjb{q:zza}{a:zva}{on:Bool}(h:(attP q a on).2.Code=0):∃(n:Nat) (e:zca),attP q a on=((n:Int),⟨0,0⟩)/\q.Entries[n]? =some e/\e.Id=a.Entry/\toR e a.Domain on 0 (-1) a.To=none/\1<=a.To.length/\a.To.length<=e.To.length:=by
 unfold attP at h ⊢;rcases yhb q.Entries a.Entry with ⟨h2,_⟩ | ⟨n,e,h2,h3,h4⟩
 .rw[h2]at h;simp at h
 rw[h2]at h ⊢;rw[if_neg (by omega)]at h ⊢;simp only[Int.toNat_natCast,h3]at h ⊢;by_cases h5:a.To.length=0∨e.To.length < a.To.length
 .rw[if_pos h5]at h;simp at h
 rw[if_neg h5]at h ⊢;cases ht:toR e a.Domain on 0 (-1) a.To with
 | some f=>rw[ht]at h;exact absurd h (qQb _ _ _ _ _ _ _ ht)
 | none=>exact ⟨n,e,rfl,h3,h4,ht,by omega,by omega⟩
def Jna(L:List zca)(n:Nat)(ks:List Int):List zca:=match L[n]? with
 | some e=>L.set n (wTo e (ks.foldl onK e.To))
 | none=>L
def Kha(q:zza)(a:zva):zza × zqa:=
 if (queF q).Code !=0 then (⟨[],0⟩,queF q) else if (attP q a false).2.Code !=0 then (⟨[],0⟩,(attP q a false).2) else
 if decide (2<=Qia q.Entries a.Domain) || uwP ((q.Entries[(attP q a false).1.toNat]?).getD ⟨0,⟨⟨[],[],[]⟩,⟨[],[]⟩⟩,0,0,0,[]⟩) a.Domain then (⟨[],0⟩,⟨8, -5⟩) else (⟨Jna q.Entries (attP q a false).1.toNat a.To,q.Next⟩,⟨0,0⟩)
theorem Kia{L:List zca}{n:Nat}(hn:n < L.length)(x:zca):idx (L.set n x) (n:Int)=some x:=zwa (by simp[hn])
theorem vLb{a:zva}{f:zqa}{L:List zca}{n:Nat}{e:zca}(he:L[n]? =some e)(hl:a.To.length<=1048576)(hk:∀k∈a.To,0<=k/\k < (e.To.length:Int))
 {body:Int × List zca->Option (Step (Int × List zca) (List zca))} (hb:body=wJa a ((n:Int),f) (L,L.length)∨body=Qea a ((n:Int),f) (L,L.length)):
 iter body (0,L)=some (L.set n (wTo e (a.To.foldl onK e.To))):=by
 have hn:=zYa he;have key:∀(r p:List Int) (T:List zia),a.To=p++r->T.length=e.To.length->iter body ((p.length:Int),L.set n (wTo e T))=some (L.set n (wTo e (r.foldl onK T))):=by
  intro r;induction r with
  | nil=>
   intro p T hp hT;have hp' :a.To=p:=by simpa using hp
   refine zEa ?_;rcases hb with rfl | rfl
   .unfold wJa;dsimp only;rw[<-hp',zQa];rfl
   unfold Qea;dsimp only;rw[<-hp',zQa];rfl
  | cons k r ih=>
   intro p T hp hT;have hx:a.To[p.length]? =some k:=by rw[hp];simp
   have hlt:=zYa hx;obtain ⟨k0,k1⟩:=hk k (List.mem_of_getElem? hx);obtain ⟨kn,rfl⟩:∃kn:Nat,k=(kn:Int):=⟨k.toNat,by omega⟩;have hkT:T[kn]? =some (T[kn]'(by omega)):=List.getElem?_eq_getElem (by omega);generalize T[kn]'(by omega)=w at hkT;have hon:onK T (kn:Int)=T.set kn ⟨w.Recipient,w.Result,true⟩:=by unfold onK;simp only[Int.toNat_natCast,hkT]
   have hnown:nown L.length (n:Int)=some true:=by unfold nown;rw[if_pos (by simpa using hn)]
   have hw:idx (wTo e T).To (kn:Int)=some w:=zwa hkT;have hc:body ((p.length:Int),L.set n (wTo e T))=some (.cont (((p.length+1:Nat):Int),L.set n (wTo e (onK T (kn:Int))))):=by
    rcases hb with rfl | rfl
    .unfold wJa;dsimp only;rw[kfa hx,zwa hx];simp only[cond_true,Option.bind_some,Kia hn,hnown,hw,sc _ (show p.length < 9223372036854775807 by omega),Int.toNat_natCast,List.set_set,hon];rfl
    unfold Qea;dsimp only;rw[kfa hx,zwa hx];simp only[cond_true,Option.bind_some,Kia hn,hnown,hw,sc _ (show p.length < 9223372036854775807 by omega),Int.toNat_natCast,List.set_set,hon];rfl
   rw[zTa hc];have:=ih (p++ [(kn:Int)]) (onK T (kn:Int)) (by simp[hp]) (by rw[qkb,hT]);simpa using this
 have h0:L.set n (wTo e e.To)=L:=zdb he;have:=key a.To [] e.To rfl rfl;rw[h0]at this;exact this
theorem Joa{q:zza}(hq:jfa q)(ok:QueOk q):ybb q.Entries:=⟨hq.1,hq.2⟩
theorem zkb(q:zza)(a:zva)(hq:jfa q)(hw:yAa q)(hl:a.To.length<=1048576):jXa q a=some (Kha q a):=by
 unfold jXa Kha;rw[ZHa q a false hq hw hl];simp only[Option.bind_some,z6a,zMa,kEa];by_cases hc:(queF q).Code=0
 .obtain ⟨ok,hF⟩:=W6a hc;have h1:((queF q).Code !=0)=false:=by simp[hc]
  have hn:=ok.n;rw[h1];simp only[Bool.false_eq_true,if_false];by_cases hca:(attP q a false).2.Code=0
  .obtain ⟨n,e,ha,he,hid,ht,t1,t2⟩:=zjb hca;have hne:=zYa he;rw[ha];simp only[bne_self_eq_false,cond_false,Bool.false_eq_true,if_false,Int.toNat_natCast,he,Option.getD_some];obtain ⟨u,m,hbz,hu,hm⟩:=busy_eq q hn hw ok.ids;rw[show iter (Zna q) (0,([]:List ((Int × Str) × Bool)),([]:List (Str × Int)))=some (u,m) from hbz];simp only[Option.bind_some,hm,hu];have e1:(q.Entries.any fun x=>a.Entry==x.Id && uwP x a.Domain)=uwP e a.Domain:=by
    rw[Bool.eq_iff_iff,List.any_eq_true];constructor
    .rintro ⟨x,hx,hxe⟩;simp at hxe;have:x=e:=id_inj ok.ids x hx e (List.mem_of_getElem? he) (by rw[hid];exact hxe.1.symm);rw[<-this];exact hxe.2
    intro h;exact ⟨e,List.mem_of_getElem? he,by simp[h,hid]⟩
   rw[e1];have e2:decide ((2:Int)<=(Qia q.Entries a.Domain:Int))=decide (2<=Qia q.Entries a.Domain):=by congr 1;apply propext;omega
   rw[e2];have e3:((bif decide (2<=Qia q.Entries a.Domain) then some true else some (uwP e a.Domain)):Option Bool)=some (decide (2<=Qia q.Entries a.Domain) || uwP e a.Domain):=by cases decide (2<=Qia q.Entries a.Domain) <;> rfl
   rw[e3];simp only[Option.bind_some];cases decide (2<=Qia q.Entries a.Domain) || uwP e a.Domain with
   | true=>rfl
   | false=>
    simp only[cond_false,Bool.false_eq_true,if_false];rw[vUa _ (by omega)];simp only[Option.bind_some];rw[show iter (Zoa q.Entries) (0,0,q.Entries)=some (q.Entries,q.Entries.length) from W4a q.Entries (Joa hq ok)];simp only[Option.bind_some];rw[vLb he hl (fun k hk=>by have:=zib _ _ _ _ _ _ (by omega) ht k hk;omega) (.inl rfl)];unfold Jna;rw[he];rfl
  have h2:((attP q a false).2.Code !=0)=true:=by simpa using hca
  rw[h2];rfl
 have h1:((queF q).Code !=0)=true:=by simpa using hc
 rw[h1];simp only[if_true,h1,cond_true]
def qlb(t:Int):Int:=if 8 < t then 14400 else 60 * 2 ^ (t - 1).toNat
theorem zOa(t w i w' i' :Int)(h1:decide (i < t)=true)(h2:decide (w < 14400)=true)(h3:min (w64 (2 * w)) 14400=w')(h4:w64 (i+1)=i'):iter (qKa t) (w,i)=iter (qKa t) (w',i'):=by
 refine zTa ?_;unfold qKa;dsimp only;rw[h1,h2,h3,h4];rfl
theorem wUa(t w i:Int)(h:(decide (i < t) && decide (w < 14400))=false):iter (qKa t) (w,i)=some w:=by
 refine zEa ?_;unfold qKa;dsimp only;cases h1:decide (i < t) with
 | false=>rfl
 | true=>rw[h1]at h;simp only[Bool.true_and]at h;rw[h];rfl
theorem wait_eq(t:Int)(h:1<=t):iter (qKa t) (60,1)=some (qlb t):=by
 by_cases h8:8 < t
 .unfold qlb;rw[if_pos h8];rw[zOa t 60 1 120 2 (decide_eq_true (by omega)) rfl rfl rfl,zOa t 120 2 240 3 (decide_eq_true (by omega)) rfl rfl rfl,zOa t 240 3 480 4 (decide_eq_true (by omega)) rfl rfl rfl,zOa t 480 4 960 5 (decide_eq_true (by omega)) rfl rfl rfl,zOa t 960 5 1920 6 (decide_eq_true (by omega)) rfl rfl rfl,zOa t 1920 6 3840 7 (decide_eq_true (by omega)) rfl rfl rfl,zOa t 3840 7 7680 8 (decide_eq_true (by omega)) rfl rfl rfl,zOa t 7680 8 14400 9 (decide_eq_true (by omega)) rfl rfl rfl];exact wUa t 14400 9 (by simp)
 have:t=1∨t=2∨t=3∨t=4∨t=5∨t=6∨t=7∨t=8:=by omega
 rcases this with rfl | rfl | rfl | rfl | rfl | rfl | rfl | rfl
 .exact wUa 1 60 1 rfl
 .rw[zOa 2 60 1 120 2 rfl rfl rfl rfl];exact wUa 2 120 2 rfl
 .rw[zOa 3 60 1 120 2 rfl rfl rfl rfl,zOa 3 120 2 240 3 rfl rfl rfl rfl];exact wUa 3 240 3 rfl
 .rw[zOa 4 60 1 120 2 rfl rfl rfl rfl,zOa 4 120 2 240 3 rfl rfl rfl rfl,zOa 4 240 3 480 4 rfl rfl rfl rfl];exact wUa 4 480 4 rfl
 .rw[zOa 5 60 1 120 2 rfl rfl rfl rfl,zOa 5 120 2 240 3 rfl rfl rfl rfl,zOa 5 240 3 480 4 rfl rfl rfl rfl,zOa 5 480 4 960 5 rfl rfl rfl rfl];exact wUa 5 960 5 rfl
 .rw[zOa 6 60 1 120 2 rfl rfl rfl rfl,zOa 6 120 2 240 3 rfl rfl rfl rfl,zOa 6 240 3 480 4 rfl rfl rfl rfl,zOa 6 480 4 960 5 rfl rfl rfl rfl,zOa 6 960 5 1920 6 rfl rfl rfl rfl];exact wUa 6 1920 6 rfl
 .rw[zOa 7 60 1 120 2 rfl rfl rfl rfl,zOa 7 120 2 240 3 rfl rfl rfl rfl,zOa 7 240 3 480 4 rfl rfl rfl rfl,zOa 7 480 4 960 5 rfl rfl rfl rfl,zOa 7 960 5 1920 6 rfl rfl rfl rfl,zOa 7 1920 6 3840 7 rfl rfl rfl rfl];exact wUa 7 3840 7 rfl
 rw[zOa 8 60 1 120 2 rfl rfl rfl rfl,zOa 8 120 2 240 3 rfl rfl rfl rfl,zOa 8 240 3 480 4 rfl rfl rfl rfl,zOa 8 480 4 960 5 rfl rfl rfl rfl,zOa 8 960 5 1920 6 rfl rfl rfl rfl,zOa 8 1920 6 3840 7 rfl rfl rfl rfl,zOa 8 3840 7 7680 8 rfl rfl rfl rfl];exact wUa 8 7680 8 rfl
theorem kkb(t:Int)(h:1<=t):0<=qlb t/\qlb t<=14400:=by
 unfold qlb;by_cases h8:8 < t
 .rw[if_pos h8];omega
 have:t=1∨t=2∨t=3∨t=4∨t=5∨t=6∨t=7∨t=8:=by omega
 rcases this with rfl | rfl | rfl | rfl | rfl | rfl | rfl | rfl <;> decide
def ZIa(since tries now:Int):Int × Bool:=if since+345600<=now then (0,false) else (min (min (now+qlb tries) (since+345600)) 68719476736,true)
theorem VXa{t:Int}(h:joa t=true): -68719476736<=t/\t<=68719476736:=by
 unfold joa at h;simpa using h
theorem klb(a b:Int)(ha:joa a=true)(hb:joa b=true):y7a [a,b]=some true:=by
 unfold y7a;have t0:∀v,joa v=true->qZa v=some true:=fun v hv=>by rw[wTa];exact congrArg some hv
 have h1:qPa [a,b] 0=some (.cont 1):=by
  unfold qPa;rw[show idx [a,b] 0=some a from rfl];simp only[Option.bind_some,t0 a ha];rfl
 have h2:qPa [a,b] 1=some (.cont 2):=by
  unfold qPa;rw[show idx [a,b] 1=some b from rfl];simp only[Option.bind_some,t0 b hb];rfl
 rw[zTa h1,zTa h2,zEa (r:=.inl ()) rfl];rfl
theorem zlb(a t n:Int)(ha:joa a=true)(hn:joa n=true)(ht:1<=t/\t<=1000000)(hle:a<=n):jYa a t n=some ((ZIa a t n).1,(ZIa a t n).2,⟨0,0⟩):=by
 unfold jYa ZIa;obtain ⟨a1,a2⟩:=VXa ha;obtain ⟨n1,n2⟩:=VXa hn;obtain ⟨w1,w2⟩:=kkb t ht.1;rw[klb a n ha hn,wait_eq t ht.1];simp only[Option.bind_some,kEa,Bool.not_true,cond_false];rw[decide_eq_false (show ¬t < 1 by omega),decide_eq_false (show ¬(1000000:Int) < t by omega),decide_eq_false (show ¬n < a by omega),q7a (n:=a+345600) (by omega) (by omega),q7a (n:=n+qlb t) (by omega) (by omega)];simp only[cond_false,Option.bind_some];by_cases h:a+345600<=n
 .rw[decide_eq_true h,if_pos h];rfl
 rw[decide_eq_false h,if_neg h];rfl
def badR(v:Int):Bool:=decide (v < 1) || decide (4 < v)
def latR(v:Int):Bool:=v==2 || v==4
def finV(again:Bool)(v:Int):Int:=if latR v then (if again then 0 else 3) else v
def resK(again:Bool)(T:List zia)(kv:Int × Int):List zia:=match T[kv.1.toNat]? with
 | some w=>T.set kv.1.toNat ⟨w.Recipient,finV again kv.2,false⟩
 | none=>T
def resS(again:Bool)(id:Int)(s:List zla × List zia)(kv:Int × Int):List zla × List zia:=(if finV again kv.2 !=0 then s.1++ [⟨id,kv.1,finV again kv.2⟩] else s.1,resK again s.2 kv)
theorem Wna(again:Bool)(T:List zia)(kv:Int × Int):(resK again T kv).length=T.length:=by unfold resK;split <;> simp
theorem latB(v:Int):((bif (v==2) then some true else some ((v==4))):Option Bool)=some (latR v):=by unfold latR;cases v==2 <;> rfl
theorem badB(v:Int):((bif decide (v < 1) then some true else some (decide (4 < v))):Option Bool)=some (badR v):=by unfold badR;cases decide (v < 1) <;> rfl
theorem kmb{α:Type}(P:α->Bool)(l:List α):decide (0<=(kba (fun i x=>if P x then some ((i:Nat):Int) else none) 0 l).getD (-1))=l.any P:=by
 cases hf:kba (fun i x=>if P x then some ((i:Nat):Int) else none) 0 l with
 | none=>
  rw[vka]at hf;have:l.any P=false:=by
   rw[List.any_eq_false];intro x hx hP;obtain ⟨i,hi⟩:=List.mem_iff_getElem?.1 hx;have:=hf i x hi;simp[hP]at this
  rw[this];rfl
 | some z=>
  obtain ⟨i,x,h1,h2⟩:=Zva hf;cases hP:P x with
  | false=>simp[hP]at h2
  | true=>
   simp[hP]at h2;have:l.any P=true:=List.any_eq_true.2 ⟨x,List.mem_of_getElem? h1,hP⟩;rw[this];exact decide_eq_true (by simp;omega)
theorem knb{a:zva}{rs:List Int}{f:zqa}{L:List zca}{n m:Nat}{e e1:zca}{again:Bool}{j3:Int × Int × Int}{j60:Bool × List zca}{j63:Int × List zca}{b:List zca × Nat}
 (hn:n < L.length) (hm:n < b.2) (hl:a.To.length<=1048576) (hrl:rs.length=a.To.length) (hbad:∀v∈rs,badR v=false) (hid:e1.Id=a.Entry) (h3:j3.1=(n:Int)) (h60:rs.any latR=true->j60.1=again) (h63:rs.any latR=true->j63.1=if again then 0 else 3)
 {body:Int × List zla × List zca->Option (Step (Int × List zla × List zca) (List zla × List zca))} (hb:body=vca a rs ((n:Int),f) b j60∨body=jHa a rs j3 b j63):
 ∀(r p rr pp:List Int) (last:Int) (out:List zla) (T:List zia),a.To=p++r->rs=pp++rr->p.length=pp.length-> -1<=last->toR e a.Domain true p.length last r=none->T.length=e.To.length->(∀j:Nat,last < (j:Int)->T[j]? =e.To[j]?)->out.length<=p.length->
  iter body ((p.length:Int),out,L.set n (wTo e1 T))=some (((r.zip rr).foldl (resS again a.Entry) (out,T)).1,L.set n (wTo e1 ((r.zip rr).foldl (resS again a.Entry) (out,T)).2)):=by
 have hnown:nown b.2 (n:Int)=some true:=by unfold nown;rw[if_pos (by simpa using hm)]
 intro r;induction r with
 | nil=>
  intro p rr pp last out T hp hpp hpl hla ht hT hj ho;have hp' :a.To=p:=by simpa using hp
  refine zEa ?_;rcases hb with rfl | rfl
  .unfold vca;dsimp only;rw[<-hp',zQa];rfl
  unfold jHa;dsimp only;rw[<-hp',zQa];rfl
 | cons k r ih=>
  intro p rr pp last out T hp hpp hpl hla ht hT hj ho;have hx:a.To[p.length]? =some k:=by rw[hp];simp
  have hlt:=zYa hx;obtain ⟨v,rr',rfl⟩:∃v rr',rr=v::rr' :=by
   cases rr with
   | nil=>exfalso;rw[hp,hpp]at hrl;simp at hrl;omega
   | cons v rr' =>exact ⟨v,rr',rfl⟩
  have hv:rs[p.length]? =some v:=by rw[hpp,hpl];simp
  have hvb:=hbad v (List.mem_of_getElem? hv);have ht0:=ht;obtain ⟨k0,k1,w,w1,w2,w3,w4⟩:=zib _ _ _ _ _ _ hla ht k (by simp);obtain ⟨kn,rfl⟩:∃kn:Nat,k=(kn:Int):=⟨k.toNat,by omega⟩;simp only[Int.toNat_natCast]at w1;have hkT:T[kn]? =some w:=by rw[hj kn k0,w1]
  have hkl:=zYa hkT;have htr:toR e a.Domain true (p.length+1) (kn:Int) r=none:=by
   unfold toR at ht;split at ht
   .cases ht
   simp only[Int.toNat_natCast,w1]at ht;split at ht
   .cases ht
   split at ht
   .cases ht
   exact ht
  have hres:resK again T ((kn:Int),v)=T.set kn ⟨w.Recipient,finV again v,false⟩:=by unfold resK;simp only[Int.toNat_natCast,hkT]
  have hvl:latR v=true->rs.any latR=true:=fun h=>List.any_eq_true.2 ⟨v,List.mem_of_getElem? hv,h⟩
  have hw:idx T (kn:Int)=some w:=zwa hkT;have happ:app 5864062014805 out ([⟨a.Entry,(kn:Int),finV again v⟩]:List zla)=some (out++ [⟨a.Entry,(kn:Int),finV again v⟩]):=qva (by simp;omega);have hw2:∀x:zia,idx (T.set kn x) (kn:Int)=some x:=fun x=>zwa (by simp[hkl])
  have hmk:∀T' :List zia,zca.mk (wTo e1 T).Id (wTo e1 T).Mail (wTo e1 T).Since (wTo e1 T).Tries (wTo e1 T).Due T' =wTo e1 T' :=fun _=>rfl
  have hmk2:∀T'' T' :List zia,zca.mk (wTo e1 T'').Id (wTo e1 T'').Mail (wTo e1 T'').Since (wTo e1 T'').Tries (wTo e1 T'').Due T' =wTo e1 T' :=fun _ _=>rfl
  have hto:∀T' :List zia,(wTo e1 T').To=T' :=fun _=>rfl
  have hids:∀T' :List zia,(wTo e1 T').Id=a.Entry:=fun _=>hid
  have hfin0:latR v=true->again=true->finV again v=0:=fun h1 h2=>by unfold finV;rw[if_pos h1,if_pos h2]
  have hc:body ((p.length:Int),out,L.set n (wTo e1 T))=some (.cont (((p.length+1:Nat):Int),(resS again a.Entry (out,T) ((kn:Int),v)).1,L.set n (wTo e1 (resS again a.Entry (out,T) ((kn:Int),v)).2))):=by
   show body ((p.length:Int),out,L.set n (wTo e1 T))=some (Step.cont (((p.length+1:Nat):Int),(if finV again v !=0 then out++ [⟨a.Entry,(kn:Int),finV again v⟩] else out),L.set n (wTo e1 (resK again T ((kn:Int),v)))));rw[hres];rcases hb with rfl | rfl
   .unfold vca;dsimp only;rw[kfa hx,zwa hx,zwa hv];simp only[cond_true,Option.bind_some,hnown,Kia hn,hw,Int.toNat_natCast,latB,hmk2,hto,List.set_set,hw2,sc _ (show p.length < 9223372036854775807 by omega)];cases hlv:latR v with
    | true=>
     rw[h60 (hvl hlv)];cases ha:again with
     | true=>
      have:finV true v=0:=by rw[<-ha];exact hfin0 hlv ha
      rw[this];simp only[cond_true,Option.bind_some];have hww:(⟨w.Recipient,w.Result,false⟩:zia)=⟨w.Recipient,0,false⟩:=by rw[w3]
      rw[hww];rfl
     | false=>
      have hf:finV false v=3:=by unfold finV;rw[if_pos hlv];rfl
      rw[ha,hf]at happ;rw[hf];simp only[cond_true,cond_false,Option.bind_some,Kia hn,hto,hw2,hids,List.set_set,hmk2,happ];rfl
    | false=>
     have hf:finV again v=v:=by unfold finV;rw[hlv];rfl
     rw[hf]at happ;have hv0:(v !=0)=true:=by
      unfold badR at hvb;simp at hvb ⊢;omega
     rw[hf,hv0];simp only[cond_false,Option.bind_some,Kia hn,hto,hw2,hids,List.set_set,hmk2,happ,if_true]
   unfold jHa;dsimp only;rw[kfa hx,zwa hx,zwa hv,h3];have hj95:((bif latR v then some j63.1 else some v):Option Int)=some (finV again v):=by
    unfold finV;cases hlv:latR v with
    | true=>rw[h63 (hvl hlv)];rfl
    | false=>rfl
   simp only[cond_true,Option.bind_some,hnown,Kia hn,hw,Int.toNat_natCast,latB,hmk2,hto,List.set_set,hw2,hj95,sc _ (show p.length < 9223372036854775807 by omega)];simp only[happ,hw2,Option.bind_some];cases finV again v !=0 <;> rfl
  rw[zTa hc];have:=ih (p++ [(kn:Int)]) rr' (pp++ [v]) (kn:Int) (resS again a.Entry (out,T) ((kn:Int),v)).1 (resS again a.Entry (out,T) ((kn:Int),v)).2 (by simp[hp]) (by simp[hpp]) (by simp[hpl]) (by omega) (by simpa using htr) (by
   show (resK again T ((kn:Int),v)).length=_;rw[Wna,hT]) (fun j hjj=>by
   show (resK again T ((kn:Int),v))[j]? =_;rw[hres,List.getElem?_set_ne (by omega)];exact hj j (by omega)) (by
   show (if finV again v !=0 then out++ [⟨a.Entry,(kn:Int),finV again v⟩] else out).length<=_;split <;> simp <;> omega)
  simpa using this
def noMl(m:kca):Bool:=m.Envelope.From==[] && m.Envelope.Id==[] && decide (m.Envelope.To.length=0) && decide (m.Message.Fields.length=0) && decide (m.Message.Body.length=0)
def Q0a(r:zha):Bool:=r.Attempt.Entry==0 && r.Attempt.Domain==[] && decide (r.Attempt.To.length=0) && decide (r.Results.length=0)
def attL:Int->List Int->Bool
 | _,[]=>true
 | last,k::r=>decide (last < k) && decide (k<=59) && attL k r
def vMb(r:zha):zqa:=
 if decide (r.Attempt.Entry < 0) || decide (1000000 < r.Attempt.Entry) then ⟨3, -3⟩ else if !domP r.Attempt.Domain then ⟨10, -4⟩ else if decide (r.Attempt.To.length < 1) || decide (60 < r.Attempt.To.length) then ⟨2, -4⟩ else
 if !attL (-1) r.Attempt.To then ⟨3, -4⟩ else if r.Results.length≠r.Attempt.To.length then ⟨9, -5⟩ else if r.Results.any badR then ⟨3, -5⟩ else ⟨0,0⟩
def rcdF(r:zha):zqa:=if r.Kind !=1 && r.Kind !=2 then ⟨4, -2⟩ else if !joa r.Now then ⟨3, -7⟩ else if (if r.Kind==2 then !noMl r.Mail else !Q0a r) then ⟨5, -8⟩ else
 if r.Kind==2 then vMb r else if (yLa r.Mail).Code !=0 then ⟨(yLa r.Mail).Code, -6⟩ else ⟨0,0⟩
theorem z2(a b:Nat)(h:a+b<=9223372036854775807):((w64 ((a:Int)+(b:Int)))==0)=(decide (a=0) && decide (b=0)):=by
 rw[z5b a b h,Bool.eq_iff_iff];simp only[beq_iff_eq,Bool.and_eq_true,decide_eq_true_eq];omega
theorem W7a(m:kca)(h:vTa m):yra m=some (noMl m):=by
 obtain ⟨t1,_⟩:=jga h;obtain ⟨f1,_⟩:=j7a h;have h5:=h.2.2;unfold yra noMl;rw[z5b _ _ (by omega),z2 _ _ (by omega)];have e:decide (m.Envelope.To.length+m.Message.Fields.length=0)=(decide (m.Envelope.To.length=0) && decide (m.Message.Fields.length=0)):=by
  rw[Bool.eq_iff_iff];simp only[Bool.and_eq_true,decide_eq_true_eq];omega
 rw[e];cases m.Envelope.From==[] <;> cases m.Envelope.Id==[] <;> rfl
theorem W8a(r:zha)(h:kza r):ysa r=some (if r.Kind==2 then noMl r.Mail else Q0a r):=by
 unfold ysa;cases r.Kind==2 with
 | true=>simp only[cond_true,if_true];rw[W7a _ h.mail];rfl
 | false=>
  simp only[cond_false,Bool.false_eq_true,if_false];have:=h.to;have:=h.res;rw[z2 _ _ (by omega)];unfold Q0a;cases r.Attempt.Entry==0 <;> cases r.Attempt.Domain==[] <;> rfl
theorem done_l1(r:zha)(hl:r.Attempt.To.length<=1048576):iter (vda r) 0=some (if attL (-1) r.Attempt.To then .inl () else .inr ⟨3, -4⟩):=by
 have key:∀(ks p:List Int) (last:Int),r.Attempt.To=p++ks->(p=[]/\last= -1∨0<=last/\∃p',p=p' ++ [last])->
  iter (vda r) (p.length:Int)=some (if attL last ks then .inl () else .inr ⟨3, -4⟩):=by
  intro ks;induction ks with
  | nil=>
   intro p last hp hc;have hp' :r.Attempt.To=p:=by simpa using hp
   refine zEa ?_;unfold vda;rw[<-hp',zQa];rfl
  | cons k ks ih=>
   intro p last hp hc;have hx:r.Attempt.To[p.length]? =some k:=by rw[hp];simp
   have hlt:=zYa hx;have hcond:((bif decide (k < 0) then some true else (bif decide (60<=k) then some true else (bif decide (0 < (p.length:Int)) then (idx r.Attempt.To ((w64 ((p.length:Int) - 1)))).bind fun v28=>some (decide (k<=v28)) else some false))):Option Bool)=some (!(decide (last < k) && decide (k<=59))):=by
    rcases hc with ⟨rfl,rfl⟩ | ⟨hl0,p',rfl⟩
    .have e1:decide (k < 0)= !decide (-1 < k):=by rw[Bool.eq_iff_iff];simp;omega
     have e2:decide (60<=k)= !decide (k<=59):=by rw[Bool.eq_iff_iff];simp;omega
     rw[e1,e2];simp only[List.length_nil];cases decide (-1 < k) <;> cases decide (k<=59) <;> rfl
    have h1:decide (0 < (((p' ++ [last]).length:Nat):Int))=true:=decide_eq_true (by rw[List.length_append,List.length_singleton];omega);have h2:idx r.Attempt.To ((w64 (((p' ++ [last]).length:Int) - 1)))=some last:=by
     rw[show (((p' ++ [last]).length:Int) - 1)=(p'.length:Int) by simp,YBa _ (by simp at hlt;omega)];rw[Vwa,hp];simp
    rw[h1,h2];simp only[cond_true,Option.bind_some];have e2:decide (60<=k)= !decide (k<=59):=by rw[Bool.eq_iff_iff];simp;omega
    have e3:decide (k<=last)= !decide (last < k):=by rw[Bool.eq_iff_iff];simp
    rw[e2,e3];by_cases hk:k < 0
    .rw[decide_eq_true hk,decide_eq_false (show ¬last < k by omega)];rfl
    rw[decide_eq_false hk];cases decide (last < k) <;> cases decide (k<=59) <;> rfl
   have hb:vda r (p.length:Int)=some (if !(decide (last < k) && decide (k<=59)) then .out (.inr ⟨3, -4⟩) else .cont ((p.length+1:Nat):Int)):=by
    unfold vda;rw[kfa hx,zwa hx];simp only[cond_true,Option.bind_some];rw[hcond];simp only[Option.bind_some,zMa,sc _ (show p.length < 9223372036854775807 by omega)];cases decide (last < k) && decide (k<=59) <;> rfl
   unfold attL;cases hq:decide (last < k) && decide (k<=59) with
   | false=>rw[hq]at hb;rw[zEa hb];rfl
   | true=>
    rw[hq]at hb;simp only[Bool.not_true,Bool.false_eq_true,if_false,Bool.true_and]at hb ⊢;rw[zTa hb];simp at hq;have hlast: -1<=last:=by rcases hc with ⟨_,rfl⟩ | ⟨h,_⟩ <;> omega
    have:=ih (p++ [k]) k (by simp[hp]) (.inr ⟨by omega,p,rfl⟩);simpa using this
 exact key r.Attempt.To [] (-1) rfl (.inl ⟨rfl,rfl⟩)
theorem done_l1R(r:zha)(hl:r.Attempt.To.length<=1048576):iter (qna r) (-1,0)=some (if attL (-1) r.Attempt.To then .inl () else .inr ⟨3, -4⟩):=by
 refine Vxa r.Attempt.To (fun n (s:Int)=>(s,(n:Int))) (fun n ks s=>(if attL s ks then .inl () else .inr ⟨3, -4⟩:Unit ⊕ zqa)) (fun n ks s=> -1<=s/\s<=59) (fun s _=>?_) (fun p k ks s hp hi=>?_) (-1) rfl (by omega)
 .unfold qna;dsimp only;rw[zQa];rfl
 have hx:r.Attempt.To[p.length]? =some k:=by rw[hp];simp
 have hlt:=zYa hx;have hb:qna r (s,(p.length:Int))=some (if !(decide (s < k) && decide (k<=59)) then .out (.inr ⟨3, -4⟩) else .cont (k,((p.length+1:Nat):Int))):=by
  unfold qna;dsimp only;rw[kfa hx,zwa hx];simp only[cond_true,Option.bind_some,vSa,jca,sc _ (show p.length < 9223372036854775807 by omega)];rw[q7a (n:=s+1) (by omega) (by omega)];have e1:decide (s+1<=k)=decide (s < k):=by rw[Bool.eq_iff_iff];simp;omega
  rw[e1];cases decide (s < k) && decide (k<=59) <;> rfl
 by_cases hq:s < k/\k<=59
 .have e:attL s (k::ks)=attL k ks:=by simp[attL,hq.1,hq.2]
  have e2:(decide (s < k) && decide (k<=59))=true:=by simp[hq.1,hq.2]
  rw[hb,e2];exact .inr ⟨k,rfl,by rw[e],by omega⟩
 have hq' :(decide (s < k) && decide (k<=59))=false:=by
  rw[Bool.and_eq_false_iff,decide_eq_false_iff_not,decide_eq_false_iff_not];omega
 have e:attL s (k::ks)=false:=by
  show (decide (s < k) && decide (k<=59) && attL k ks)=false;rw[hq'];rfl
 rw[hb,hq',e];exact .inl rfl
theorem zmb(r:zha)(h:kza r):j1a r=some (vMb r):=by
 have ht:=h.to;have hr:=h.res;have hd:=h.dom;unfold j1a vMb;have e1:((bif decide (r.Attempt.Entry < 0) then some true else some (decide (1000000 < r.Attempt.Entry))):Option Bool)=some (decide (r.Attempt.Entry < 0) || decide (1000000 < r.Attempt.Entry)):=by cases decide (r.Attempt.Entry < 0) <;> rfl
 rw[e1];simp only[Option.bind_some,zMa];cases decide (r.Attempt.Entry < 0) || decide (1000000 < r.Attempt.Entry) with
 | true=>rfl
 | false=>
  simp only[cond_false,Bool.false_eq_true,if_false];rw[jya _ (by omega)];simp only[Option.bind_some];cases domP r.Attempt.Domain with
  | false=>rfl
  | true=>
   simp only[Bool.not_true,cond_false,Bool.false_eq_true,if_false];have e2:((bif decide ((r.Attempt.To.length:Int) < 1) then some true else some (decide (60 < (r.Attempt.To.length:Int)))):Option Bool)=some (decide (r.Attempt.To.length < 1) || decide (60 < r.Attempt.To.length)):=by
    have a1:decide ((r.Attempt.To.length:Int) < 1)=decide (r.Attempt.To.length < 1):=by congr 1;apply propext;omega
    have a2:decide (60 < (r.Attempt.To.length:Int))=decide (60 < r.Attempt.To.length):=by congr 1;apply propext;omega
    rw[a1,a2];cases decide (r.Attempt.To.length < 1) <;> rfl
   rw[e2];simp only[Option.bind_some];cases decide (r.Attempt.To.length < 1) || decide (60 < r.Attempt.To.length) with
   | true=>rfl
   | false=>
    simp only[cond_false,Bool.false_eq_true,if_false];rw[done_l1 r ht];cases attL (-1) r.Attempt.To with
    | false=>rfl
    | true=>
     simp only[if_true,Option.bind_some,Sum.elim_inl,Bool.not_true,Bool.false_eq_true,if_false];by_cases hl:r.Results.length=r.Attempt.To.length
     .rw[show ((r.Results.length:Int) !=(r.Attempt.To.length:Int))=false by rw[hl];simp,if_neg (by simpa using hl)];simp only[cond_false];have hany:∃z:Int,((iter (wMa r) 0).bind (Sum.elim (fun _=>some ((-1))) (fun b=>some b)):Option Int)=some z/\decide (0<=z)=r.Results.any badR:=by
       rw[z0a r.Results (fun i x=>if badR x then some ((i:Nat):Int) else none) (.inl ()) .inr]
       .refine ⟨_,?_,kmb badR r.Results⟩;simp only[Option.bind_some,QQa]
       .unfold wMa;rw[zQa];rfl
       intro i x hx;have hi:=zYa hx;unfold wMa;rw[kfa hx,zwa hx];simp only[cond_true,Option.bind_some,sc i (by omega)];unfold badR;cases decide (x < 1) <;> cases decide (4 < x) <;> rfl
      obtain ⟨z,hz1,hz2⟩:=hany;first
       | rw[hz1]
       | (simp only[hz1])
      simp only[Option.bind_some,hz2,kEa];cases r.Results.any badR <;> rfl
     rw[show ((r.Results.length:Int) !=(r.Attempt.To.length:Int))=true by simp;omega,if_pos hl];rfl
theorem jIa(r:zha)(h:kza r):vQa r=some (rcdF r):=by
 unfold vQa rcdF;have e1:((bif (r.Kind !=1) then some ((r.Kind !=2)) else some false):Option Bool)=some (r.Kind !=1 && r.Kind !=2):=by cases r.Kind !=1 <;> rfl
 rw[e1];simp only[Option.bind_some,zMa,wTa];cases r.Kind !=1 && r.Kind !=2 with
 | true=>rfl
 | false=>
  simp only[cond_false,Bool.false_eq_true,if_false];show (bif !joa r.Now then _ else _)=_;cases joa r.Now with
  | false=>rfl
  | true=>
   simp only[Bool.not_true,cond_false,Bool.false_eq_true,if_false];rw[W8a r h];simp only[Option.bind_some];have e2:(!(if r.Kind==2 then noMl r.Mail else Q0a r))=(if r.Kind==2 then !noMl r.Mail else !Q0a r):=by cases r.Kind==2 <;> rfl
   rw[e2];cases (if r.Kind==2 then !noMl r.Mail else !Q0a r) with
   | true=>rfl
   | false=>
    simp only[cond_false,Bool.false_eq_true,if_false];cases r.Kind==2 with
    | true=>
     simp only[cond_true,if_true];rw[zmb r h];rfl
    | false=>
     simp only[cond_false,Bool.false_eq_true,if_false];rw[yaa _ h.mail.1 h.mail.2];simp only[Option.bind_some,z6a,kEa];cases (yLa r.Mail).Code !=0 <;> rfl
theorem VFa(r:zha)(h:kza r):wha r=some (rcdF r):=by
 have ht:=h.to;have hr:=h.res;have hd:=h.dom;unfold wha rcdF;have e1:((bif (r.Kind !=1) then some ((r.Kind !=2)) else some false):Option Bool)=some (r.Kind !=1 && r.Kind !=2):=by cases r.Kind !=1 <;> rfl
 rw[e1];simp only[Option.bind_some,jca,zeb];cases hk0:r.Kind !=1 && r.Kind !=2 with
 | true=>rfl
 | false=>
  simp only[cond_false,Bool.false_eq_true,if_false];cases joa r.Now with
  | false=>rfl
  | true=>
   simp only[Bool.not_true,cond_false,Bool.false_eq_true,if_false];have ei:∀n:Nat,((n:Int)==0)=decide (n=0):=fun n=>by rw[Bool.eq_iff_iff];simp
   have e3:((bif (r.Attempt.Entry==0) then (bif (r.Attempt.Domain==([]:Str)) then (bif ((r.Attempt.To.length:Int)==0) then some (((r.Results.length:Int)==0)) else some false) else some false) else some false):Option Bool)=some (Q0a r):=by
    rw[ei,ei];unfold Q0a;cases r.Attempt.Entry==0 <;> cases r.Attempt.Domain==[] <;> cases decide (r.Attempt.To.length=0) <;> rfl
   have e4:((bif (r.Mail.Envelope.From==([]:Str)) then (bif (r.Mail.Envelope.Id==([]:Str)) then (bif ((r.Mail.Envelope.To.length:Int)==0) then (bif ((r.Mail.Message.Fields.length:Int)==0) then some (((r.Mail.Message.Body.length:Int)==0)) else some false) else some false) else some false) else some false):Option Bool)=some (noMl r.Mail):=by
    rw[ei,ei,ei];unfold noMl;cases r.Mail.Envelope.From==[] <;> cases r.Mail.Envelope.Id==[] <;> cases decide (r.Mail.Envelope.To.length=0) <;> cases decide (r.Mail.Message.Fields.length=0) <;> rfl
   rw[e3,e4];simp only[Option.bind_some];have hk12:(r.Kind==2)= !(r.Kind==1):=by
    simp[bne]at hk0;by_cases h1:r.Kind=1
    .rw[h1];rfl
    rw[hk0 h1];rfl
   have e5:((bif (r.Kind==1) then (bif (!Q0a r) then some true else (bif (r.Kind==2) then some ((!noMl r.Mail)) else some false)) else (bif (r.Kind==2) then some ((!noMl r.Mail)) else some false)):Option Bool)=some (if r.Kind==2 then !noMl r.Mail else !Q0a r):=by
    rw[hk12];cases r.Kind==1 <;> cases Q0a r <;> cases noMl r.Mail <;> rfl
   rw[e5];simp only[Option.bind_some];cases (if r.Kind==2 then !noMl r.Mail else !Q0a r) with
   | true=>rfl
   | false=>
    simp only[cond_false,Bool.false_eq_true,if_false];rw[hk12];cases r.Kind==1 with
    | true=>
     simp only[cond_true,Bool.not_true,Bool.false_eq_true,if_false];rw[YHa _ h.mail.1 h.mail.2];simp only[Option.bind_some];cases (yLa r.Mail).Code !=0 <;> rfl
    | false=>
     simp only[cond_false,Bool.not_false,if_true,vSa,Option.bind_some];unfold vMb;have a1:(!(decide (0<=r.Attempt.Entry) && decide (r.Attempt.Entry<=1000000)))=(decide (r.Attempt.Entry < 0) || decide (1000000 < r.Attempt.Entry)):=by rw[Bool.eq_iff_iff];simp
     rw[a1];cases decide (r.Attempt.Entry < 0) || decide (1000000 < r.Attempt.Entry) with
     | true=>rfl
     | false=>
      simp only[cond_false,Bool.false_eq_true,if_false];rw[QRa _ (by omega)];simp only[Option.bind_some];cases domP r.Attempt.Domain with
      | false=>rfl
      | true=>
       simp only[Bool.not_true,cond_false,Bool.false_eq_true,if_false];have a2:(!(decide (1<=(r.Attempt.To.length:Int)) && decide ((r.Attempt.To.length:Int)<=60)))=(decide (r.Attempt.To.length < 1) || decide (60 < r.Attempt.To.length)):=by
        rw[Bool.eq_iff_iff];simp only[Bool.not_eq_true',Bool.and_eq_false_iff,Bool.or_eq_true,decide_eq_false_iff_not,decide_eq_true_eq];omega
       rw[a2];cases decide (r.Attempt.To.length < 1) || decide (60 < r.Attempt.To.length) with
       | true=>rfl
       | false=>
        simp only[cond_false,Bool.false_eq_true,if_false];rw[done_l1R r ht];cases attL (-1) r.Attempt.To with
        | false=>rfl
        | true=>
         simp only[if_true,Option.bind_some,Sum.elim_inl,Bool.not_true,Bool.false_eq_true,if_false];by_cases hl:r.Results.length=r.Attempt.To.length
         .rw[show ((r.Results.length:Int) !=(r.Attempt.To.length:Int))=false by rw[hl];simp,if_neg (by simpa using hl)];simp only[cond_false];rw[z0a r.Results (fun _ x=>if badR x then some (⟨3, -5⟩:zqa) else none) (.inl ()) .inr,yQa]
          .simp only[Option.bind_some];cases r.Results.any badR <;> rfl
          .unfold v3a;rw[zQa];rfl
          intro i x hx;have hi:=zYa hx;unfold v3a;rw[kfa hx,zwa hx];simp only[cond_true,Option.bind_some,vSa,jca,sc i (by omega)];have a3:(!(decide (1<=x) && decide (x<=4)))=badR x:=by unfold badR;rw[Bool.eq_iff_iff];simp
          rw[a3];cases badR x <;> rfl
         rw[show ((r.Results.length:Int) !=(r.Attempt.To.length:Int))=true by simp;omega,if_pos hl];rfl
def lpL{α:Type}(item:Lft->α × Lft):Nat->Lft->List α × Lft
 | 0,s=>([],s)
 | _+1,none=>([],none)
 | n+1,some b=>((item (some b)).1::(lpL item n (item (some b)).2).1,(lpL item n (item (some b)).2).2)
theorem qRb{α:Type}(item:Lft->α × Lft)(n:Nat)(b:List UInt8):lpL item (n+1) (some b)=((item (some b)).1::(lpL item n (item (some b)).2).1,(lpL item n (item (some b)).2).2):=rfl
def lqL{α:Type}(item:Lft->α × Lft):Nat->Lft->List α × Lft
 | 0,s=>([],s)
 | n+1,s=>((item s).1::(lqL item n (item s).2).1,(lqL item n (item s).2).2)
def lpR(s:Lft):zba × Lft:=(⟨(pT s).1,(pN (pT s).2).1⟩,(pN (pT s).2).2)
def lpF(s:Lft):zea × Lft:=(⟨(pT s).1,(pT (pT s).2).1⟩,(pT (pT s).2).2)
structure W9a {α:Type} (item:Lft->α × Lft) (enc:α->List UInt8):Prop where
 bad:(item none).2=none
 inv:∀s x b,item s=(x,some b)->∃b0,s=some b0/\b0=enc x++b/\8<=(enc x).length
theorem kob:W9a pN num8:=⟨rfl,fun s x b h=>by
 obtain ⟨b0,h1,_,_,h4⟩:=yEa h;exact ⟨b0,h1,h4,by rw[kna];omega⟩⟩
theorem kpb:W9a lpR spR:=⟨rfl,fun s x b h=>by
 unfold lpR at h;cases h2:(pN (pT s).2).2 with
 | none=>rw[h2]at h;cases h
 | some b2=>
  rw[h2]at h;cases h;obtain ⟨b1,e1,_,_,e4⟩:=yEa (s:=(pT s).2) (n:=(pN (pT s).2).1) (b:=b) (by rw[<-h2]);obtain ⟨b0,f1,_,f3⟩:=Kba (s:=s) (t:=(pT s).1) (b:=b1) (by rw[<-e1]);exact ⟨b0,f1,by rw[f3,e4];simp[spR],by unfold spR;rw[List.length_append,qWa];omega⟩⟩
theorem Jpa:W9a lpF spF:=⟨rfl,fun s x b h=>by
 unfold lpF at h;cases h2:(pT (pT s).2).2 with
 | none=>rw[h2]at h;cases h
 | some b2=>
  rw[h2]at h;cases h;obtain ⟨b1,e1,_,e4⟩:=Kba (s:=(pT s).2) (t:=(pT (pT s).2).1) (b:=b) (by rw[<-h2]);obtain ⟨b0,f1,_,f3⟩:=Kba (s:=s) (t:=(pT s).1) (b:=b1) (by rw[<-e1]);exact ⟨b0,f1,by rw[f3,e4];simp[spF],by unfold spF;rw[List.length_append,qWa];omega⟩⟩
theorem Yaa{α:Type}{item:Lft->α × Lft}{enc:α->List UInt8}(h:W9a item enc):∀(n:Nat) (s:Lft) (l:List α) (b:List UInt8),lpL item n s=(l,some b)->∃b0,s=some b0/\b0=l.flatMap enc++b/\l.length=n
 | 0,s,l,b,hp=>by cases hp;exact ⟨b,rfl,rfl,rfl⟩
 | n+1,none,l,b,hp=>by cases hp
 | n+1,some b0,l,b,hp=>by
  unfold lpL at hp;cases h1:(lpL item n (item (some b0)).2) with
  | mk l1 s1=>
   rw[h1]at hp;cases hp;obtain ⟨b1,e1,e2,e3⟩:=Yaa h n _ l1 b h1;obtain ⟨b0',f1,f2,_⟩:=h.inv (some b0) (item (some b0)).1 b1 (by rw[<-e1]);cases f1;exact ⟨b0,rfl,by rw[List.flatMap_cons,List.append_assoc,<-e2];exact f2,by simp[e3]⟩
theorem Qja{α:Type}{item:Lft->α × Lft}{enc:α->List UInt8}:∀(l:List α) (b:List UInt8),(∀x∈l,∀b,item (some (enc x++b))=(x,some b))->lpL item l.length (some (l.flatMap enc++b))=(l,some b)
 | [],b,_=>rfl
 | x::l,b,h=>by
  rw[List.flatMap_cons,List.append_assoc,List.length_cons];unfold lpL;rw[h x (by simp)];dsimp only;rw[Qja l b (fun y hy=>h y (by simp[hy]))]
theorem Woa{α:Type}{item:Lft->α × Lft}(h:(item none).2=none):∀n,(lqL item n none).2=none
 | 0=>rfl
 | n+1=>by unfold lqL;dsimp only;rw[h];exact Woa h n
theorem qSb{α:Type}{item:Lft->α × Lft}(h:(item none).2=none):∀(n:Nat) (s:Lft),(lqL item n s).2=(lpL item n s).2/\((lqL item n s).2≠none->lqL item n s=lpL item n s)
 | 0,s=>⟨rfl,fun _=>rfl⟩
 | n+1,none=>⟨by rw[Woa h];rfl,fun hc=>absurd (Woa h _) hc⟩
 | n+1,some b=>by
  obtain ⟨i1,i2⟩:=qSb h n (item (some b)).2;unfold lqL lpL;dsimp only;refine ⟨i1,fun hc=>?_⟩;rw[i2 hc]
theorem yib{α:Type}{item:Lft->α × Lft}{enc:α->List UInt8}(h:W9a item enc):∀(n:Nat) (s:Lft) (B:Nat),(∀b,s=some b->b.length<=B)->(lpL item n s).1.length * 8<=B+8
 | 0,s,B,_=>by simp[lpL]
 | n+1,none,B,_=>by simp[lpL]
 | n+1,some b,B,hb=>by
  have hbB:=hb b rfl;unfold lpL;dsimp only;rw[List.length_cons];cases hi:(item (some b)).2 with
  | none=>
   have:(lpL item n none).1.length=0:=by cases n <;> rfl
   rw[this];omega
  | some b1=>
   obtain ⟨b0,f1,f2,f3⟩:=h.inv (some b) (item (some b)).1 b1 (by rw[<-hi]);cases f1;have hl:b.length=(enc (item (some b)).1).length+b1.length:=by rw[<-List.length_append,<-f2]
   have:=yib h n (some b1) (B - 8) (fun b' hb' =>by cases hb';omega);omega
theorem wVa{α:Type}{item:Lft->α × Lft}(h:∀s,k8a s->k8a (item s).2):∀(n:Nat) (s:Lft),k8a s->k8a (lpL item n s).2
 | 0,s,hs=>hs
 | n+1,none,hs=>fun b hb=>by cases hb
 | n+1,some b,hs=>wVa h n _ (h _ hs)
theorem VGa{α:Type}{item:Lft->α × Lft}{P:α->Prop}(h:∀s,k8a s->k8a (item s).2/\P (item s).1):∀(n:Nat) (s:Lft),k8a s->∀x∈(lpL item n s).1,P x
 | 0,s,hs,x,hx=>by cases hx
 | n+1,none,hs,x,hx=>by cases hx
 | n+1,some b,hs,x,hx=>by
  rcases List.mem_cons.1 hx with rfl | hx
  .exact (h _ hs).2
  exact VGa h n _ (h _ hs).1 x hx
theorem qmb{α:Type}{item:Lft->α × Lft}{enc:α->List UInt8}(hi:W9a item enc)(n:Int)(hn:n<=9223372036854775807){body:Int × zja × List α->Option (Step (Int × zja × List α) (zja × List α))}
 (h1:∀(i:Nat) b out,(i:Int) < n->out.length<=1048576->b.length<=1048576->body ((i:Int),rdr (some b),out)=some (.cont (((i+1:Nat):Int),rdr (item (some b)).2,out++ [(item (some b)).1])))
 (h2:∀(i:Nat) s out,¬((i:Int) < n/\s≠none)->body ((i:Int),rdr s,out)=some (.out (rdr s,out))):
 ∀(k i:Nat) (s:Lft) (out:List α),k=(n - (i:Int)).toNat->(∀b,s=some b->out.length * 8+b.length<=1048576)->
  iter body ((i:Int),rdr s,out)=some (rdr (lpL item k s).2,out++(lpL item k s).1):=by
 intro k;induction k with
 | zero=>
  intro i s out hk hs;rw[zEa (h2 i s out (by omega))];simp[lpL]
 | succ k ih=>
  intro i s out hk hs;cases s with
  | none=>
   rw[zEa (h2 i none out (by simp))];simp[lpL]
  | some b=>
   have hb:=hs b rfl;rw[zTa (h1 i b out (by omega) (by omega) (by omega))];have:=ih (i+1) (item (some b)).2 (out++ [(item (some b)).1]) (by omega) (fun b1 hb1=>by
    obtain ⟨b0,f1,f2,f3⟩:=hi.inv (some b) (item (some b)).1 b1 (by rw[<-hb1]);cases f1;have hl:b.length=(enc (item (some b)).1).length+b1.length:=by rw[<-List.length_append,<-f2]
    simp only[List.length_append,List.length_singleton];omega)
   rw[this,qRb];simp
theorem KHa(i n:Int)(s:Lft):((bif decide (i < n) then some (!(rdr s).bad) else some false):Option Bool)=some (decide (i < n/\s≠none)):=by
 cases s with
 | none=>simp[rdr]
 | some b=>by_cases h:i < n <;> simp[rdr,h]
theorem read_l1(v9:Int × zja)(hn:v9.1<=9223372036854775807)(s:Lft)(hs:k8a s):iter (vea v9) (0,rdr s,([]:List zba))=some (rdr (lpL lpR v9.1.toNat s).2,(lpL lpR v9.1.toNat s).1):=by
 have:=qmb kpb v9.1 hn (body:=vea v9) (fun i b out hi ho hb=>by
  have hsb:k8a (some b):=fun b' h' =>by cases h';exact hb
  unfold vea;dsimp only;rw[KHa,decide_eq_true (show (i:Int) < v9.1/\(some b:Lft)≠none from ⟨hi,by simp⟩)];simp only[Option.bind_some,cond_true];rw[kda _ hsb];simp only[Option.bind_some];rw[zHa _ (kSa hsb).1];simp only[Option.bind_some,sc i (by omega)];rw[qva (by simp;omega)];rfl) (fun i s out hc=>by
  unfold vea;dsimp only;rw[KHa,decide_eq_false hc];rfl) (v9.1 - ((0:Nat):Int)).toNat 0 s [] rfl (fun b hb=>by have:=hs b hb;simp;omega)
 rw[show (v9.1 - ((0:Nat):Int)).toNat=v9.1.toNat by omega]at this;rw[show iter (vea v9) (0,rdr s,([]:List zba))=_ from this];simp
theorem read_l2(v9:Int × zja)(hn:v9.1<=9223372036854775807)(s:Lft)(hs:k8a s):iter (vfa v9) (0,rdr s,([]:List zea))=some (rdr (lpL lpF v9.1.toNat s).2,(lpL lpF v9.1.toNat s).1):=by
 have:=qmb Jpa v9.1 hn (body:=vfa v9) (fun i b out hi ho hb=>by
  have hsb:k8a (some b):=fun b' h' =>by cases h';exact hb
  unfold vfa;dsimp only;rw[KHa,decide_eq_true (show (i:Int) < v9.1/\(some b:Lft)≠none from ⟨hi,by simp⟩)];simp only[Option.bind_some,cond_true];rw[kda _ hsb];simp only[Option.bind_some];rw[kda _ (kSa hsb).1];simp only[Option.bind_some,sc i (by omega)];rw[qva (by simp;omega)];rfl) (fun i s out hc=>by
  unfold vfa;dsimp only;rw[KHa,decide_eq_false hc];rfl) (v9.1 - ((0:Nat):Int)).toNat 0 s [] rfl (fun b hb=>by have:=hs b hb;simp;omega)
 rw[show (v9.1 - ((0:Nat):Int)).toNat=v9.1.toNat by omega]at this;rw[show iter (vfa v9) (0,rdr s,([]:List zea))=_ from this];simp
theorem yjb(v9:Int × zja)(hn:v9.1<=9223372036854775807)(s:Lft)(hs:k8a s):iter (vga v9) (0,rdr s,([]:List Int))=some (rdr (lpL pN v9.1.toNat s).2,(lpL pN v9.1.toNat s).1):=by
 have:=qmb kob v9.1 hn (body:=vga v9) (fun i b out hi ho hb=>by
  have hsb:k8a (some b):=fun b' h' =>by cases h';exact hb
  have hnum:=zHa (some b) hsb;unfold zDa at hnum;unfold vga;dsimp only;rw[KHa,decide_eq_true (show (i:Int) < v9.1/\(some b:Lft)≠none from ⟨hi,by simp⟩)];simp only[Option.bind_some,cond_true];rw[show ((bif decide (((rdr (some b)).b.length:Int) < 8) then some ((0,(zja.mk ([]) true))) else (iter (Zsa ((i:Int),rdr (some b),out)) ((0,0))).bind fun b56=>(cut (rdr (some b)).b 8 (((rdr (some b)).b.length:Int))).bind fun v63=>some (((w64 b56),(zja.mk v63 (rdr (some b)).bad)))):Option (Int × zja))=_ from hnum];simp only[Option.bind_some,sc i (by omega)];rw[qva (by simp;omega)];rfl) (fun i s out hc=>by
  unfold vga;dsimp only;rw[KHa,decide_eq_false hc];rfl) (v9.1 - ((0:Nat):Int)).toNat 0 s [] rfl (fun b hb=>by have:=hs b hb;simp;omega)
 rw[show (v9.1 - ((0:Nat):Int)).toNat=v9.1.toNat by omega]at this;rw[show iter (vga v9) (0,rdr s,([]:List Int))=_ from this];simp
theorem read_l5(v9:Int × zja)(hn:v9.1<=9223372036854775807)(s:Lft)(hs:k8a s):iter (Zta v9) (0,rdr s,([]:List Int))=some (rdr (lpL pN v9.1.toNat s).2,(lpL pN v9.1.toNat s).1):=yjb v9 hn s hs
def zMl:kca:=⟨⟨[],[],[]⟩,⟨[],[]⟩⟩
def pMl(s:Lft):kca × Lft:=
 let f:=pT s;let c:=pN f.2;let to:=lpL lpR c.1.toNat c.2;let id:=pT to.2;let m:=pN id.2;let fs:=lpL lpF m.1.toNat m.2;let bd:=pT fs.2
 (⟨⟨f.1,to.1,id.1⟩,⟨fs.1,bd.1⟩⟩,bd.2)
def pAt(s:Lft):(zva × List Int) × Lft:=
 let e:=pN s;let d:=pT e.2;let c:=pN d.2;let to:=lpL pN c.1.toNat c.2;let m:=pN to.2;let rs:=lpL pN m.1.toNat m.2
 ((⟨e.1,d.1,to.1⟩,rs.1),rs.2)
def lpK(k t:Int)(s:Lft):zha × Lft:=if k==1 then (⟨k,t,(pMl s).1,⟨0,[],[]⟩,[]⟩,(pMl s).2) else (⟨k,t,zMl,(pAt s).1.1,(pAt s).1.2⟩,(pAt s).2)
def lpB(b:List UInt8):zha × Lft:=lpK (pN (some b)).1 (pN (pN (some b)).2).1 (pN (pN (some b)).2).2
theorem znb(s:Lft):ok64 (pN s).1:=by
 cases s with
 | none=>show ok64 0;unfold ok64;omega
 | some b=>
  unfold pN;dsimp only;split
  .show ok64 0;unfold ok64;omega
  exact qEb _
theorem pN_hi(s:Lft):(pN s).1<=9223372036854775807:=by have:=znb s;unfold ok64 at this;omega
theorem Q1a(s:Lft)(h:k8a s):k8a (lpR s).2/\(lpR s).1.Address.length<=1048576:=⟨z9a (kSa h).1,(kSa h).2⟩
theorem Yba(s:Lft)(h:k8a s):k8a (lpF s).2/\((lpF s).1.Name.length<=1048576/\(lpF s).1.Value.length<=1048576):=⟨(kSa (kSa h).1).1,(kSa h).2,(kSa (kSa h).1).2⟩
theorem qTb{α:Type}{item:Lft->α × Lft}{enc:α->List UInt8}(h:W9a item enc)(n:Nat)(s:Lft)(hs:k8a s):(lpL item n s).1.length<=1048576:=by
 have:=yib h n s 1048576 hs;omega
theorem ykb(s:Lft)(h:k8a s):vTa (pMl s).1:=by
 have a1:=kSa h;have a2:=z9a a1.1;have a3:=wVa (fun s hs=>(Q1a s hs).1) (pN (pT s).2).1.toNat _ a2;have a4:=kSa a3;have a5:=z9a a4.1;have a6:=wVa (fun s hs=>(Yba s hs).1) (pN (pT (lpL lpR (pN (pT s).2).1.toNat (pN (pT s).2).2).2).2).1.toNat _ a5;have a7:=kSa a6;exact ⟨⟨a1.2,a4.2,qTb kpb _ _ a2,VGa (P:=fun r:zba=>r.Address.length<=1048576) Q1a _ _ a2⟩,⟨qTb Jpa _ _ a5,VGa (P:=fun f:zea=>f.Name.length<=1048576/\f.Value.length<=1048576) Yba _ _ a5⟩,a7.2⟩
theorem Yca:vTa zMl:=⟨⟨by simp[zMl],by simp[zMl],by simp[zMl],fun r hr=>by simp[zMl]at hr⟩,⟨by simp[zMl],fun r hr=>by simp[zMl]at hr⟩,by simp[zMl]⟩
theorem ylb(s:Lft)(h:k8a s):(pAt s).1.1.Domain.length<=1048576/\(pAt s).1.1.To.length<=1048576/\(pAt s).1.2.length<=1048576:=by
 have a1:=z9a h;have a2:=kSa a1;have a3:=z9a a2.1;have a4:=wVa (fun s hs=>z9a hs) (pN (pT (pN s).2).2).1.toNat _ a3;have a5:=z9a a4;exact ⟨a2.2,qTb kob _ _ a3,qTb kob _ _ a5⟩
theorem Kja(b:List UInt8)(h:b.length<=1048576):kza (lpB b).1:=by
 have h0:k8a (some b):=fun b' hb=>by cases hb;exact h
 have h1:=z9a (z9a h0);unfold lpB lpK;split
 .exact ⟨ykb _ h1,by simp,by simp,by simp⟩
 obtain ⟨a1,a2,a3⟩:=ylb _ h1;exact ⟨Yca,a1,a2,a3⟩
theorem Q2a(b:List UInt8)(h:b.length<=1048576):j3a b=some ((lpB b).1,decide ((lpB b).2=some []) && ((rcdF (lpB b).1).Code==0)):=by
 have hsm:=Kja b h;have h0:k8a (some b):=fun b' hb=>by cases hb;exact h
 have h1:=z9a h0;have h2:=z9a h1;have key:∀(s:Lft) (r:zha),kza r->((bif (!(rdr s).bad) then (bif (((rdr s).b.length:Int)==0) then (vQa r).bind fun v92=>(z3a v92).bind fun v94=>some ((!v94)) else some false) else some false):Option Bool)=some (decide (s=some []) && ((rcdF r).Code==0)):=by
  intro s r hr;rw[jIa r hr];cases s with
  | none=>rfl
  | some b=>
   cases b with
   | nil=>simp[rdr,z6a,bne]
   | cons c b=>
    have:(((rdr (some (c::b))).b.length:Int)==0)=false:=by
     rw[beq_eq_false_iff_ne];show (((c::b).length:Nat):Int)≠0;simp;omega
    rw[this];simp[rdr]
 unfold j3a;rw[show (zja.mk b false)=rdr (some b) from rfl,zHa _ h0];simp only[Option.bind_some];rw[zHa _ h1];simp only[Option.bind_some];unfold lpB at hsm ⊢;generalize (pN (some b)).1=kk at hsm ⊢;generalize (pN (pN (some b)).2).1=tt at hsm ⊢;generalize (pN (pN (some b)).2).2=s at h2 hsm ⊢;unfold lpK at hsm ⊢;by_cases hk:kk=1
 .subst hk;rw[if_pos (by decide)]at hsm ⊢;simp only[beq_self_eq_true,cond_true];have a1:=kSa h2;have a2:=z9a a1.1;have a3:=wVa (fun s hs=>(Q1a s hs).1) (pN (pT s).2).1.toNat _ a2;have a4:=kSa a3;have a5:=z9a a4.1;have a6:=wVa (fun s hs=>(Yba s hs).1) (pN (pT (lpL lpR (pN (pT s).2).1.toNat (pN (pT s).2).2).2).2).1.toNat _ a5;rw[kda _ h2];simp only[Option.bind_some];rw[zHa _ a1.1];simp only[Option.bind_some];rw[read_l1 _ (pN_hi _) _ a2];simp only[Option.bind_some];rw[kda _ a3];simp only[Option.bind_some];rw[zHa _ a4.1];simp only[Option.bind_some];rw[read_l2 _ (pN_hi _) _ a5];simp only[Option.bind_some];rw[kda _ a6];simp only[Option.bind_some];have:=key (pMl s).2 _ hsm;unfold pMl at this hsm ⊢;dsimp only at this hsm ⊢;rw[this];rfl
 have hk' :(kk==1)=false:=beq_eq_false_iff_ne.2 hk;rw[if_neg (by simpa using hk)]at hsm ⊢;rw[hk'];simp only[cond_false];have a1:=z9a h2;have a2:=kSa a1;have a3:=z9a a2.1;have a4:=wVa (fun s hs=>z9a hs) (pN (pT (pN s).2).2).1.toNat _ a3;have a5:=z9a a4;rw[zHa _ h2];simp only[Option.bind_some];rw[kda _ a1];simp only[Option.bind_some];rw[zHa _ a2.1];simp only[Option.bind_some];rw[yjb _ (pN_hi _) _ a3];simp only[Option.bind_some];rw[zHa _ a4];simp only[Option.bind_some];rw[read_l5 _ (pN_hi _) _ a5];simp only[Option.bind_some];have:=key (pAt s).2 _ hsm;unfold pAt zMl at this hsm ⊢;dsimp only at this hsm ⊢;rw[this];rfl
def in60(n:Int):Bool:=decide (0<=n) && decide (n<=60)
def rMl(s:Lft):kca × Lft:=
 if in60 (pN (pT s).2).1 then
  if in60 (pN (pT (lqL lpR (pN (pT s).2).1.toNat (pN (pT s).2).2).2).2).1 then
   (⟨⟨(pT s).1,(lqL lpR (pN (pT s).2).1.toNat (pN (pT s).2).2).1,(pT (lqL lpR (pN (pT s).2).1.toNat (pN (pT s).2).2).2).1⟩,
    ⟨(lqL lpF (pN (pT (lqL lpR (pN (pT s).2).1.toNat (pN (pT s).2).2).2).2).1.toNat (pN (pT (lqL lpR (pN (pT s).2).1.toNat (pN (pT s).2).2).2).2).2).1,
     (pT (lqL lpF (pN (pT (lqL lpR (pN (pT s).2).1.toNat (pN (pT s).2).2).2).2).1.toNat (pN (pT (lqL lpR (pN (pT s).2).1.toNat (pN (pT s).2).2).2).2).2).2).1⟩⟩,
    (pT (lqL lpF (pN (pT (lqL lpR (pN (pT s).2).1.toNat (pN (pT s).2).2).2).2).1.toNat (pN (pT (lqL lpR (pN (pT s).2).1.toNat (pN (pT s).2).2).2).2).2).2).2)
  else (⟨⟨(pT s).1,(lqL lpR (pN (pT s).2).1.toNat (pN (pT s).2).2).1,(pT (lqL lpR (pN (pT s).2).1.toNat (pN (pT s).2).2).2).1⟩,⟨[],[]⟩⟩,none)
 else (⟨⟨(pT s).1,[],[]⟩,⟨[],[]⟩⟩,none)
theorem Yda(s:Lft):zfa.mk (cur s).b (cur s).bad=cur s:=rfl
theorem ymb{α:Type}{item:Lft->α × Lft}(n:Int)(hn:n<=60){body:Int × List α × List UInt8 × Bool->Option (Step (Int × List α × List UInt8 × Bool) (List α × List UInt8 × Bool))}
 (h1:∀(i:Nat) s out,(i:Int) < n->out.length<=1000->body ((i:Int),out,(cur s).b,(cur s).bad)=some (.cont (((i+1:Nat):Int),out++ [(item s).1],(cur (item s).2).b,(cur (item s).2).bad)))
 (h2:∀(i:Nat) s out,¬((i:Int) < n)->body ((i:Int),out,(cur s).b,(cur s).bad)=some (.out (out,(cur s).b,(cur s).bad))):
 ∀(k i:Nat) (s:Lft) (out:List α),k=(n - (i:Int)).toNat->out.length<=i->i<=60->
  iter body ((i:Int),out,(cur s).b,(cur s).bad)=some (out++(lqL item k s).1,(cur (lqL item k s).2).b,(cur (lqL item k s).2).bad):=by
 intro k;induction k with
 | zero=>
  intro i s out hk ho hi;rw[zEa (h2 i s out (by omega))];simp[lqL]
 | succ k ih=>
  intro i s out hk ho hi;rw[zTa (h1 i s out (by omega) (by omega))];have:=ih (i+1) (item s).2 (out++ [(item s).1]) (by omega) (by simp;omega) (by omega);rw[this];show _=some (out++((item s).1::(lqL item k (item s).2).1),_,_);simp[lqL]
theorem vNb(v:zfa × Int)(hn:v.2<=60)(s:Lft):iter (via v) (0,([]:List zba),(cur s).b,(cur s).bad)=some ((lqL lpR v.2.toNat s).1,(cur (lqL lpR v.2.toNat s).2).b,(cur (lqL lpR v.2.toNat s).2).bad):=by
 have:=ymb (item:=lpR) v.2 hn (body:=via v) (fun i s out hi ho=>by
  unfold via;dsimp only;rw[decide_eq_true hi,Yda,qLa];simp only[cond_true,Option.bind_some,kNa,sc i (by omega)];rw[qva (by simp;omega)];rfl) (fun i s out hi=>by
  unfold via;dsimp only;rw[decide_eq_false hi];rfl) (v.2 - ((0:Nat):Int)).toNat 0 s [] rfl (by simp) (by omega)
 rw[show (v.2 - ((0:Nat):Int)).toNat=v.2.toNat by omega]at this;rw[show iter (via v) (0,([]:List zba),(cur s).b,(cur s).bad)=_ from this];simp
theorem vOb(v:zfa × Int)(hn:v.2<=60)(s:Lft):iter (vja v) (0,([]:List zea),(cur s).b,(cur s).bad)=some ((lqL lpF v.2.toNat s).1,(cur (lqL lpF v.2.toNat s).2).b,(cur (lqL lpF v.2.toNat s).2).bad):=by
 have:=ymb (item:=lpF) v.2 hn (body:=vja v) (fun i s out hi ho=>by
  unfold vja;dsimp only;rw[decide_eq_true hi,Yda,qLa];simp only[cond_true,Option.bind_some,qLa,sc i (by omega)];rw[qva (by simp;omega)];rfl) (fun i s out hi=>by
  unfold vja;dsimp only;rw[decide_eq_false hi];rfl) (v.2 - ((0:Nat):Int)).toNat 0 s [] rfl (by simp) (by omega)
 rw[show (v.2 - ((0:Nat):Int)).toNat=v.2.toNat by omega]at this;rw[show iter (vja v) (0,([]:List zea),(cur s).b,(cur s).bad)=_ from this];simp
theorem ynb{n:Int}(h:in60 n=true):n<=60:=by unfold in60 at h;simp at h;exact h.2
theorem zob(s:Lft):w7a (cur s)=some (cur (rMl s).2,(rMl s).1):=by
 unfold w7a rMl;rw[qLa];simp only[Option.bind_some,kNa,vSa];show (bif !in60 (pN (pT s).2).1 then _ else _)=_;cases h1:in60 (pN (pT s).2).1 with
 | false=>rfl
 | true=>
  simp only[Bool.not_true,cond_false,if_true];rw[vNb _ (ynb h1)];simp only[Option.bind_some,Yda,qLa,kNa];show (bif !in60 _ then _ else _)=_;cases h2:in60 (pN (pT (lqL lpR (pN (pT s).2).1.toNat (pN (pT s).2).2).2).2).1 with
  | false=>rfl
  | true=>
   simp only[Bool.not_true,cond_false,if_true];rw[vOb _ (ynb h2)];simp only[Option.bind_some,Yda,qLa]
def rNs(s:Lft):List Int × Lft:=match (pN s).2 with
 | none=>([],none)
 | some b=>if 0<=(pN s).1/\(pN s).1<=(b.length:Int) then lpL pN (pN s).1.toNat (some b) else ([],none)
theorem ZJa(s:Lft)(hs:k8a s):k3a (cur s)=some (cur (rNs s).2,(rNs s).1):=by
 have h1:=z9a hs;unfold k3a rNs;rw[kNa];simp only[Option.bind_some];generalize pN s=q at h1;obtain ⟨n,s2⟩:=q;cases s2 with
 | none=>rfl
 | some b=>
  have hb:=h1 b rfl;dsimp only;simp only[show (cur (some b)).bad=false from rfl,show (cur (some b)).b=b from rfl,cond_false,vSa,Option.bind_some];by_cases hc:0<=n/\n<=(b.length:Int)
  .rw[if_pos hc,decide_eq_true hc.1,decide_eq_true hc.2];simp only[Bool.and_self,Bool.not_true,cond_false];have key:∀(k i:Nat) (t:Lft) (out:List Int),k=(n - (i:Int)).toNat->out.length<=i->
    iter (kQa (cur (some b),n)) ((i:Int),out,(cur t).b,(cur t).bad)=some (out++(lpL pN k t).1,(cur (lpL pN k t).2).b,(cur (lpL pN k t).2).bad):=by
    intro k;induction k with
    | zero=>
     intro i t out hk ho;refine (zEa (r:=(out,(cur t).b,(cur t).bad)) ?_).trans (by simp[lpL]);unfold kQa;dsimp only;rw[decide_eq_false (show ¬(i:Int) < n by omega)];rfl
    | succ k ih=>
     intro i t out hk ho;cases t with
     | none=>
      refine (zEa (r:=(out,[],true)) ?_).trans (by simp[lpL,cur]);unfold kQa;dsimp only;rw[decide_eq_true (show (i:Int) < n by omega)];rfl
     | some b1=>
      have hc:kQa (cur (some b),n) ((i:Int),out,(cur (some b1)).b,(cur (some b1)).bad)=some (.cont (((i+1:Nat):Int),out++ [(pN (some b1)).1],(cur (pN (some b1)).2).b,(cur (pN (some b1)).2).bad)):=by
       unfold kQa;dsimp only;rw[decide_eq_true (show (i:Int) < n by omega),Yda,kNa];simp only[cond_true,Option.bind_some,sc i (by omega)];rw[qva (by simp;omega)];rfl
      rw[zTa hc];have:=ih (i+1) (pN (some b1)).2 (out++ [(pN (some b1)).1]) (by omega) (by simp;omega);rw[this,qRb];simp
   have:=key (n - ((0:Nat):Int)).toNat 0 (some b) [] rfl (by simp);rw[show (n - ((0:Nat):Int)).toNat=n.toNat by omega]at this;rw[show iter (kQa (cur (some b),n)) (0,([]:List Int),b,false)=_ from this];rfl
  rw[if_neg hc];have:(decide (0<=n) && decide (n<=(b.length:Int)))=false:=by
   rw[Bool.and_eq_false_iff,decide_eq_false_iff_not,decide_eq_false_iff_not];omega
  rw[this];rfl
def rAt(s:Lft):(zva × List Int) × Lft:=
 ((⟨(pN s).1,(pT (pN s).2).1,(rNs (pT (pN s).2).2).1⟩,(rNs (rNs (pT (pN s).2).2).2).1),(rNs (rNs (pT (pN s).2).2).2).2)
def rK(k t:Int)(s:Lft):zha × Lft:=if k==1 then (⟨k,t,(rMl s).1,⟨0,[],[]⟩,[]⟩,(rMl s).2) else (⟨k,t,zMl,(rAt s).1.1,(rAt s).1.2⟩,(rAt s).2)
def rB(b:List UInt8):zha × Lft:=rK (pN (some b)).1 (pN (pN (some b)).2).1 (pN (pN (some b)).2).2
theorem rMl_same{s:Lft}(h:(rMl s).2≠none):rMl s=pMl s/\0<=(pN (pT s).2).1/\0<=(pN (pT (lpL lpR (pN (pT s).2).1.toNat (pN (pT s).2).2).2).2).1:=by
 unfold rMl at h ⊢;split at h
 .rename_i h1;split at h
  .rename_i h2;dsimp only at h;have n3:(lqL lpF (pN (pT (lqL lpR (pN (pT s).2).1.toNat (pN (pT s).2).2).2).2).1.toNat (pN (pT (lqL lpR (pN (pT s).2).1.toNat (pN (pT s).2).2).2).2).2).2≠none:=fun hc=>h (by rw[hc];rfl)
   have e3:=(qSb Jpa.bad _ _).2 n3;have n2:(lqL lpR (pN (pT s).2).1.toNat (pN (pT s).2).2).2≠none:=fun hc=>by
    rw[hc]at n3;exact n3 (Woa Jpa.bad _)
   have e2:=(qSb kpb.bad _ _).2 n2;rw[if_pos h1,if_pos h2,e3,e2];rw[e2]at h2;refine ⟨?_,by unfold in60 at h1;simp at h1;exact h1.1,by unfold in60 at h2;simp at h2;exact h2.1⟩;rfl
  exact absurd rfl h
 exact absurd rfl h
theorem zpb{s:Lft}(h:(rNs s).2≠none):rNs s=lpL pN (pN s).1.toNat (pN s).2/\0<=(pN s).1:=by
 unfold rNs at h ⊢;generalize pN s=q at h ⊢;obtain ⟨n,s2⟩:=q;cases s2 with
 | none=>exact absurd rfl h
 | some b=>
  dsimp only at h ⊢;split at h
  .rename_i hc;rw[if_pos hc];exact ⟨rfl,hc.1⟩
  exact absurd rfl h
theorem rAt_same{s:Lft}(h:(rAt s).2≠none):rAt s=pAt s/\0<=(pN (pT (pN s).2).2).1/\0<=(pN (lpL pN (pN (pT (pN s).2).2).1.toNat (pN (pT (pN s).2).2).2).2).1:=by
 unfold rAt at h ⊢;dsimp only at h;obtain ⟨e2,c2⟩:=zpb h;have n1:(rNs (pT (pN s).2).2).2≠none:=fun hc=>h (by rw[hc];rfl)
 obtain ⟨e1,c1⟩:=zpb n1;rw[e2];rw[e1]at c2 ⊢;exact ⟨rfl,c1,c2⟩
theorem pMl_inv{s:Lft}{m:kca}{b:List UInt8}(h:pMl s=(m,some b))(c1:0<=(pN (pT s).2).1)(c2:0<=(pN (pT (lpL lpR (pN (pT s).2).1.toNat (pN (pT s).2).2).2).2).1):s=some (spM m++b):=by
 unfold pMl at h;dsimp only at h;generalize hf:pT s=f at *;obtain ⟨f1,f2⟩:=f;dsimp only at *;generalize hc:pN f2=c at *;obtain ⟨n1,c3⟩:=c;dsimp only at *;generalize hto:lpL lpR n1.toNat c3=to at *;obtain ⟨to1,to2⟩:=to;dsimp only at *;generalize hid:pT to2=id at *;obtain ⟨id1,id2⟩:=id;dsimp only at *;generalize hm:pN id2=mm at *;obtain ⟨n2,m2⟩:=mm;dsimp only at *;generalize hfs:lpL lpF n2.toNat m2=fs at *;obtain ⟨fs1,fs2⟩:=fs;dsimp only at *;generalize hbd:pT fs2=bd at *;obtain ⟨bd1,bd2⟩:=bd;cases h;obtain ⟨b6,rfl,_,e6⟩:=Kba hbd;obtain ⟨b5,rfl,e5,l5⟩:=Yaa Jpa _ _ _ _ hfs;obtain ⟨b4,rfl,_,_,e4⟩:=yEa hm;obtain ⟨b3,rfl,_,e3⟩:=Kba hid;obtain ⟨b2,rfl,e2,l2⟩:=Yaa kpb _ _ _ _ hto;obtain ⟨b1,rfl,_,_,e1⟩:=yEa hc;obtain ⟨b0,rfl,_,e0⟩:=Kba hf;have q1:n1=(to1.length:Int):=by omega
 have q2:n2=(fs1.length:Int):=by omega
 rw[e0,e1,e2,e3,e4,e5,e6,q1,q2];simp[spM,spRs,spFs]
theorem pAt_inv{s:Lft}{a:zva}{rs:List Int}{b:List UInt8}(h:pAt s=((a,rs),some b))(c1:0<=(pN (pT (pN s).2).2).1)(c2:0<=(pN (lpL pN (pN (pT (pN s).2).2).1.toNat (pN (pT (pN s).2).2).2).2).1)(k t:Int)(m:kca):s=some (spA ⟨k,t,m,a,rs⟩++b):=by
 unfold pAt at h;dsimp only at h;generalize he:pN s=e at *;obtain ⟨e1,e2⟩:=e;dsimp only at *;generalize hd:pT e2=d at *;obtain ⟨d1,d2⟩:=d;dsimp only at *;generalize hc:pN d2=c at *;obtain ⟨n1,c3⟩:=c;dsimp only at *;generalize hto:lpL pN n1.toNat c3=to at *;obtain ⟨to1,to2⟩:=to;dsimp only at *;generalize hm:pN to2=mm at *;obtain ⟨n2,m2⟩:=mm;dsimp only at *;generalize hrs:lpL pN n2.toNat m2=r at *;obtain ⟨rs1,rs2⟩:=r;cases h;obtain ⟨b5,rfl,e5,l5⟩:=Yaa kob _ _ _ _ hrs;obtain ⟨b4,rfl,_,_,e4⟩:=yEa hm;obtain ⟨b3,rfl,e3,l3⟩:=Yaa kob _ _ _ _ hto;obtain ⟨b2,rfl,_,_,e2'⟩:=yEa hc;obtain ⟨b1,rfl,_,e1'⟩:=Kba hd;obtain ⟨b0,rfl,_,_,e0⟩:=yEa he;have q1:n1=(to1.length:Int):=by omega
 have q2:n2=(rs1.length:Int):=by omega
 rw[e0,e1',e2',e3,e4,e5,q1,q2];simp[spA,WWa]
theorem rB_inv{b:List UInt8}(h:(rB b).2=some []):lpB b=rB b/\spB (rB b).1=b:=by
 unfold rB lpB at *;generalize hk:pN (some b)=k at *;obtain ⟨k1,k2⟩:=k;dsimp only at *;generalize ht:pN k2=t at *;obtain ⟨t1,t2⟩:=t;dsimp only at *;unfold rK lpK at *;by_cases hk1:k1=1
 .subst hk1;rw[if_pos (by decide)]at h ⊢;rw[if_pos (by decide)];dsimp only at h ⊢;obtain ⟨e,c1,c2⟩:=rMl_same (s:=t2) (by rw[h];simp);rw[e]at h ⊢;have hinv:=pMl_inv (s:=t2) (m:=(pMl t2).1) (b:=[]) (by rw[<-h]) c1 c2;rw[h];clear e c1 c2 h;generalize (pMl t2).1=m at hinv ⊢;subst hinv;obtain ⟨b1,rfl,_,_,e1⟩:=yEa ht;obtain ⟨b0,hb0,_,_,e0⟩:=yEa hk;cases hb0;refine ⟨rfl,?_⟩;rw[e0,e1];unfold spB;simp
 rw[if_neg (by simpa using hk1)]at h ⊢;rw[if_neg (by simpa using hk1)];dsimp only at h ⊢;obtain ⟨e,c1,c2⟩:=rAt_same (s:=t2) (by rw[h];simp);rw[e]at h ⊢;have hinv:=pAt_inv (s:=t2) (a:=(pAt t2).1.1) (rs:=(pAt t2).1.2) (b:=[]) (by rw[<-h]) c1 c2 k1 t1 zMl;rw[h];clear e c1 c2 h;generalize (pAt t2).1.1=aa at hinv ⊢;generalize (pAt t2).1.2=rr at hinv ⊢;subst hinv;obtain ⟨b1,rfl,_,_,e1⟩:=yEa ht;obtain ⟨b0,hb0,_,_,e0⟩:=yEa hk;cases hb0;refine ⟨rfl,?_⟩;have hk2:(k1==1)=false:=beq_eq_false_iff_ne.2 hk1;rw[e0,e1];unfold spB;dsimp only;rw[hk2];simp
structure zqb (r:zha):Prop where
 kind:ok64 r.Kind
 now:ok64 r.Now
 entry:ok64 r.Attempt.Entry
 notify:∀x∈r.Mail.Envelope.To,ok64 x.Notify
 to:∀x∈r.Attempt.To,ok64 x
 res:∀x∈r.Results,ok64 x
theorem Yea(n:Nat)(h:n<=1048576):ok64 (n:Int):=by unfold ok64;omega
theorem yob(r:zba)(h1:r.Address.length<=1048576)(h2:ok64 r.Notify)(b:List UInt8):lpR (some (spR r++b))=(r,some b):=by
 unfold lpR spR;rw[List.append_assoc,ZFa _ h1];dsimp only;rw[wSa _ h2]
theorem ypb(f:zea)(h1:f.Name.length<=1048576)(h2:f.Value.length<=1048576)(b:List UInt8):lpF (some (spF f++b))=(f,some b):=by
 unfold lpF spF;rw[List.append_assoc,ZFa _ h1];dsimp only;rw[ZFa _ h2]
theorem yqb{α:Type}{item:Lft->α × Lft}{enc:α->List UInt8}(hi:(item none).2=none)(l:List α)(b:List UInt8)(h:∀x∈l,∀b,item (some (enc x++b))=(x,some b)):lqL item l.length (some (l.flatMap enc++b))=(l,some b):=by
 have h1:=Qja l b h;have h2:=qSb hi l.length (some (l.flatMap enc++b));rw[h2.2 (by rw[h2.1,h1];simp),h1]
theorem pMl_enc(m:kca)(h:vTa m)(hn:∀x∈m.Envelope.To,ok64 x.Notify)(b:List UInt8):pMl (some (spM m++b))=(m,some b):=by
 obtain ⟨t1,t2⟩:=jga h;obtain ⟨f1,f2⟩:=j7a h;have h3:=h.1.1;have h4:=h.1.2.1;have h5:=h.2.2;unfold pMl spM spRs spFs;simp only[List.append_assoc];rw[ZFa _ h3];dsimp only;rw[wSa _ (Yea _ t1)];dsimp only;rw[Int.toNat_natCast,Qja _ _ (fun x hx b=>yob x (t2 x hx) (hn x hx) b)];dsimp only;rw[ZFa _ h4];dsimp only;rw[wSa _ (Yea _ f1)];dsimp only;rw[Int.toNat_natCast,Qja _ _ (fun x hx b=>ypb x (f2 x hx).1 (f2 x hx).2 b)];dsimp only;rw[ZFa _ h5]
theorem in60_n{n:Nat}(h:n<=60):in60 (n:Int)=true:=by unfold in60;simp;omega
theorem rMl_enc(m:kca)(h:vTa m)(hn:∀x∈m.Envelope.To,ok64 x.Notify)(l1:m.Envelope.To.length<=60)(l2:m.Message.Fields.length<=60)(b:List UInt8):rMl (some (spM m++b))=(m,some b):=by
 obtain ⟨t1,t2⟩:=jga h;obtain ⟨f1,f2⟩:=j7a h;have h3:=h.1.1;have h4:=h.1.2.1;have h5:=h.2.2;have e1:pT (some (spM m++b))=(m.Envelope.From,some (num8 (m.Envelope.To.length:Int)++(m.Envelope.To.flatMap spR++(encT m.Envelope.Id++(num8 (m.Message.Fields.length:Int)++(m.Message.Fields.flatMap spF++(encT m.Message.Body++b))))))):=by
  unfold spM spRs spFs;simp only[List.append_assoc];rw[ZFa _ h3]
 unfold rMl;rw[e1];dsimp only;rw[wSa _ (Yea _ t1)];dsimp only;rw[in60_n l1,if_pos rfl,Int.toNat_natCast,yqb kpb.bad _ _ (fun x hx b=>yob x (t2 x hx) (hn x hx) b)];dsimp only;rw[ZFa _ h4];dsimp only;rw[wSa _ (Yea _ f1)];dsimp only;rw[in60_n l2,if_pos rfl,Int.toNat_natCast,yqb Jpa.bad _ _ (fun x hx b=>ypb x (f2 x hx).1 (f2 x hx).2 b)];dsimp only;rw[ZFa _ h5]
theorem pAt_enc(r:zha)(h:kza r)(ho:zqb r)(b:List UInt8):pAt (some (spA r++b))=((r.Attempt,r.Results),some b):=by
 unfold pAt spA WWa;simp only[List.append_assoc];rw[wSa _ ho.entry];dsimp only;rw[ZFa _ h.dom];dsimp only;rw[wSa _ (Yea _ h.to)];dsimp only;rw[Int.toNat_natCast,Qja _ _ (fun x hx b=>wSa x (ho.to x hx) b)];dsimp only;rw[wSa _ (Yea _ h.res)];dsimp only;rw[Int.toNat_natCast,Qja _ _ (fun x hx b=>wSa x (ho.res x hx) b)]
theorem yrb(l:List Int)(h:l.length<=1048576)(ho:∀x∈l,ok64 x)(b:List UInt8):rNs (some (WWa l++b))=(l,some b):=by
 unfold rNs WWa;rw[List.append_assoc,wSa _ (Yea _ h)];dsimp only;rw[if_pos ⟨by omega,by rw[List.length_append,Z9a];omega⟩,Int.toNat_natCast,Qja _ _ (fun x hx b=>wSa x (ho x hx) b)]
theorem rAt_enc(r:zha)(h:kza r)(ho:zqb r)(b:List UInt8):rAt (some (spA r++b))=((r.Attempt,r.Results),some b):=by
 have e1:pN (some (spA r++b))=(r.Attempt.Entry,some (encT r.Attempt.Domain++(WWa r.Attempt.To++(WWa r.Results++b)))):=by
  unfold spA;simp only[List.append_assoc];rw[wSa _ ho.entry]
 unfold rAt;rw[e1];dsimp only;rw[ZFa _ h.dom];dsimp only;rw[yrb _ h.to ho.to];dsimp only;rw[yrb _ h.res ho.res]
theorem ysb{r:zha}(h:(rcdF r).Code=0):(r.Kind=1/\r.Attempt=⟨0,[],[]⟩/\r.Results=[]/\(yLa r.Mail).Code=0)∨(r.Kind=2/\r.Mail=zMl/\(vMb r).Code=0):=by
 unfold rcdF at h;by_cases h1:(r.Kind !=1 && r.Kind !=2)=true
 .rw[if_pos h1]at h;simp at h
 rw[if_neg h1]at h;by_cases h2:(!joa r.Now)=true
 .rw[if_pos h2]at h;simp at h
 rw[if_neg h2]at h;by_cases hk:r.Kind=2
 .have hk' :(r.Kind==2)=true:=by simpa using hk
  rw[hk']at h;simp only[if_true]at h;right;cases h3:noMl r.Mail with
  | false=>rw[h3]at h;simp at h
  | true=>
   rw[h3]at h;simp only[Bool.not_true,Bool.false_eq_true,if_false]at h;refine ⟨hk,?_,h⟩;unfold noMl at h3;simp only[Bool.and_eq_true,beq_iff_eq,decide_eq_true_eq,List.length_eq_zero_iff]at h3;obtain ⟨⟨⟨⟨a1,a2⟩,a3⟩,a4⟩,a5⟩:=h3;have:r.Mail=⟨⟨r.Mail.Envelope.From,r.Mail.Envelope.To,r.Mail.Envelope.Id⟩,⟨r.Mail.Message.Fields,r.Mail.Message.Body⟩⟩:=rfl;rw[this,a1,a2,a3,a4,a5];rfl
 have hk' :(r.Kind==2)=false:=beq_eq_false_iff_ne.2 hk;rw[hk']at h;simp only[Bool.false_eq_true,if_false]at h;left;have hk1:r.Kind=1:=by
  simp at h1;by_cases h' :r.Kind=1
  .exact h'
  exact absurd (h1 h') hk
 cases h3:Q0a r with
 | false=>rw[h3]at h;simp at h
 | true=>
  rw[h3]at h;simp only[Bool.not_true,Bool.false_eq_true,if_false]at h;unfold Q0a at h3;simp only[Bool.and_eq_true,beq_iff_eq,decide_eq_true_eq,List.length_eq_zero_iff]at h3;obtain ⟨⟨⟨a1,a2⟩,a3⟩,a4⟩:=h3;refine ⟨hk1,?_,a4,?_⟩
  .have:r.Attempt=⟨r.Attempt.Entry,r.Attempt.Domain,r.Attempt.To⟩:=rfl;rw[this,a1,a2,a3]
  by_cases hm:(yLa r.Mail).Code=0
  .exact hm
  rw[if_pos (by simpa using hm)]at h;exact absurd h hm
theorem qUb{m:kca}(h:(yLa m).Code=0):m.Envelope.To.length<=60/\m.Message.Fields.length<=60:=by
 unfold yLa at h;split at h
 .rename_i h1;simp at h1;exact absurd h h1
 rename_i h1;split at h
 .rename_i h2;simp at h2;exact absurd h h2
 rename_i h2;simp at h1 h2;refine ⟨?_,?_⟩
 .unfold envF at h1;split at h1
  .simp at h1
  split at h1
  .simp at h1
  rename_i h4;simp at h4;omega
 unfold msgF at h2;split at h2
 .rename_i h3;simp at h3;exact absurd h2 h3
 rename_i h3;simp at h3;unfold Qga at h3;split at h3
 .simp at h3
 omega
theorem lpB_enc(r:zha)(h:kza r)(ho:zqb r)(hf:(rcdF r).Code=0):lpB (spB r)=(r,some []):=by
 unfold lpB spB;simp only[List.append_assoc];rw[wSa _ ho.kind];dsimp only;rw[wSa _ ho.now];dsimp only;unfold lpK;rcases ysb hf with ⟨hk,ha,hr,_⟩ | ⟨hk,hm,_⟩
 .rw[hk];simp only[beq_self_eq_true,if_true];have:=pMl_enc r.Mail h.mail ho.notify [];rw[List.append_nil]at this;rw[this,<-ha,<-hr,<-hk]
 rw[hk];simp only[show ((2:Int)==1)=false from rfl,Bool.false_eq_true,if_false];have:=pAt_enc r h ho [];rw[List.append_nil]at this;rw[this,<-hm,<-hk]
theorem rB_enc(r:zha)(h:kza r)(ho:zqb r)(hf:(rcdF r).Code=0):rB (spB r)=(r,some []):=by
 unfold rB spB;simp only[List.append_assoc];rw[wSa _ ho.kind];dsimp only;rw[wSa _ ho.now];dsimp only;unfold rK;rcases ysb hf with ⟨hk,ha,hr,hm⟩ | ⟨hk,hm,_⟩
 .rw[hk];simp only[beq_self_eq_true,if_true];have:=rMl_enc r.Mail h.mail ho.notify (qUb hm).1 (qUb hm).2 [];rw[List.append_nil]at this;rw[this,<-ha,<-hr,<-hk]
 rw[hk];simp only[show ((2:Int)==1)=false from rfl,Bool.false_eq_true,if_false];have:=rAt_enc r h ho [];rw[List.append_nil]at this;rw[this,<-hm,<-hk]
theorem ok64_0:ok64 0:=by unfold ok64;omega
theorem lpB_ok(b:List UInt8)(h:b.length<=1048576):zqb (lpB b).1:=by
 have h0:k8a (some b):=fun b' hb=>by cases hb;exact h
 have h1:=z9a (z9a h0);unfold lpB lpK;split
 .refine ⟨znb _,znb _,ok64_0,?_,fun x hx=>(by cases hx),fun x hx=>(by cases hx)⟩;have a1:=kSa h1;have a2:=z9a a1.1;exact VGa (P:=fun r:zba=>ok64 r.Notify) (fun s hs=>⟨(Q1a s hs).1,znb _⟩) _ _ a2
 have a1:=z9a h1;have a2:=kSa a1;have a3:=z9a a2.1;have a4:=wVa (fun s hs=>z9a hs) (pN (pT (pN (pN (pN (some b)).2).2).2).2).1.toNat _ a3;have a5:=z9a a4;exact ⟨znb _,znb _,znb _,fun x hx=>(by simp[zMl]at hx),VGa (P:=fun x:Int=>ok64 x) (fun s hs=>⟨z9a hs,znb _⟩) _ _ a3,VGa (P:=fun x:Int=>ok64 x) (fun s hs=>⟨z9a hs,znb _⟩) _ _ a5⟩
def accP(b:List UInt8):Option (zha × Nat):=match (pN (pT (some b)).2).2 with
 | none=>none
 | some rest=>if decide ((lpB (pT (some b)).1).2=some []) && ((rcdF (lpB (pT (some b)).1).1).Code==0) && (spB (lpB (pT (some b)).1).1==(pT (some b)).1) && ((pN (pT (some b)).2).1==w64 (sumB (pT (some b)).1)) then some ((lpB (pT (some b)).1).1,b.length - rest.length) else none
def zRec:zha:=⟨0,0,zMl,⟨0,[],[]⟩,[]⟩
theorem getBody(body:List UInt8)(hl:body.length<=1048576)(z:Int):((zXa ((zfa.mk body false))).bind fun v10=>(zXa v10.1).bind fun v12=>(bif (v10.2==1) then (w7a v12.1).bind fun v16=>some ((z,(zha.mk v10.2 v12.2 v16.2 ((zva.mk 0 (([]:Str)) ([]))) ([])),v16.1.b,v16.1.bad)) else (zXa v12.1).bind fun v18=>(k9a v18.1).bind fun v20=>(k3a v20.1).bind fun v22=>(k3a v22.1).bind fun v24=>some ((z,(zha.mk v10.2 v12.2 ((kca.mk ((zGa.mk (([]:Str)) ([]) (([]:Str)))) ((zxa.mk ([]) ([]))))) ((zva.mk v18.2 v20.2 v22.2)) v24.2),v24.1.b,v24.1.bad))):Option (Int × zha × (List UInt8) × Bool))=some (z,(rB body).1,(cur (rB body).2).b,(cur (rB body).2).bad):=by
 have h0:k8a (some body):=fun b' hb=>by cases hb;exact hl
 have h1:=z9a h0;have h2:=z9a h1;rw[show (zfa.mk body false)=cur (some body) from rfl,kNa];simp only[Option.bind_some,kNa];unfold rB;generalize (pN (some body)).1=k;generalize (pN (pN (some body)).2).1=t;generalize (pN (pN (some body)).2).2=s at h2 ⊢;unfold rK;by_cases hk:k=1
 .subst hk;rw[if_pos (by decide)];simp only[beq_self_eq_true,cond_true,zob,Option.bind_some]
 rw[if_neg (by simpa using hk),beq_eq_false_iff_ne.2 hk];have a1:=z9a h2;have a2:=kSa a1;simp only[cond_false,qLa,Option.bind_some];rw[ZJa _ a2.1];simp only[Option.bind_some];have a3:k8a (rNs (pT (pN s).2).2).2:=by
  by_cases hn:(rNs (pT (pN s).2).2).2=none
  .rw[hn];intro b hb;cases hb
  rw[(zpb hn).1];exact wVa (fun s hs=>z9a hs) _ _ (z9a a2.1)
 rw[ZJa _ a3];rfl
theorem K1a(b:List UInt8)(h:b.length<=1048576):jaa b=some (match accP b with | some (r,n)=>(r,(n:Int)) | none=>(zRec,0)):=by
 have h0:k8a (some b):=fun b' hb=>by cases hb;exact h
 have hT:=kSa h0;have hN:=z9a hT.1;unfold jaa accP;rw[show (zfa.mk b false)=cur (some b) from rfl,qLa];simp only[Option.bind_some,kNa];generalize hbody:(pT (some b)).1=body at *;generalize hsm:(pN (pT (some b)).2).1=sm at *;cases hrest:(pN (pT (some b)).2).2 with
 | none=>rfl
 | some rest=>
  have hrl:rest.length<=b.length:=by
   obtain ⟨b1,e1,e2,_⟩:=yEa (s:=(pT (some b)).2) (n:=sm) (b:=rest) (by rw[<-hsm,<-hrest]);obtain ⟨b0,e3,e4,_⟩:=Kba (s:=some b) (t:=body) (b:=b1) (by rw[<-hbody,<-e1]);cases e3;omega
  dsimp only;simp only[show (cur (some rest)).bad=false from rfl,show (cur (some rest)).b=rest from rfl,cond_false];rw[YCa _ (by omega)];simp only[Option.bind_some];by_cases hs:sm=w64 (sumB body)
  .have e1:(sm !=w64 (sumB body))=false:=by simp[hs]
   have e2:(sm==w64 (sumB body))=true:=by simp[hs]
   rw[e1,e2];simp only[cond_false,Bool.and_true];have hz:w64 ((b.length:Int) - (rest.length:Int))=((b.length - rest.length:Nat):Int):=w64_ns _ _ hrl (by omega);have hgb:=getBody body hT.2 (w64 ((b.length:Int) - (rest.length:Int)));have hbb:∀{X:Option (Int × zha × List UInt8 × Bool)} {F:Int × zha × List UInt8 × Bool->Option (zha × Int)} {v:Int × zha × List UInt8 × Bool} {r},X=some v->F v=r->X.bind F=r:=by
    intro X F v r h1 h2;rw[h1];exact h2
   have hassoc:∀(F:Int × zha × List UInt8 × Bool->Option (zha × Int)) r,F (w64 ((b.length:Int) - (rest.length:Int)),(rB body).1,(cur (rB body).2).b,(cur (rB body).2).bad)=r->((zXa ((zfa.mk body false))).bind fun v10=>(zXa v10.1).bind fun v12=>((bif (v10.2==1) then (w7a v12.1).bind fun v16=>some (((w64 ((b.length:Int) - (rest.length:Int))),(zha.mk v10.2 v12.2 v16.2 ((zva.mk 0 (([]:Str)) ([]))) ([])),v16.1.b,v16.1.bad)) else (zXa v12.1).bind fun v18=>(k9a v18.1).bind fun v20=>(k3a v20.1).bind fun v22=>(k3a v22.1).bind fun v24=>some (((w64 ((b.length:Int) - (rest.length:Int))),(zha.mk v10.2 v12.2 ((kca.mk ((zGa.mk (([]:Str)) ([]) (([]:Str)))) ((zxa.mk ([]) ([]))))) ((zva.mk v18.2 v20.2 v22.2)) v24.2),v24.1.b,v24.1.bad))):Option (Int × zha × (List UInt8) × Bool)).bind F)=r:=by
    intro F r hF;have:=hbb (F:=F) hgb hF;rw[<-this];cases zXa (zfa.mk body false) with
    | none=>rfl
    | some v10=>
     simp only[Option.bind_some];cases zXa v10.1 <;> rfl
   refine hassoc _ _ ?_;dsimp only;by_cases hr:(rB body).2=some []
   .obtain ⟨e3,e4⟩:=rB_inv hr;have hsr:=Kja body hT.2;rw[e3]at hsr ⊢;rw[hr,e4];simp only[show (cur (some [])).bad=false from rfl,show (cur (some [])).b=[] from rfl,cond_false,List.length_nil];rw[VFa _ hsr];by_cases hc:(rcdF (rB body).1).Code=0
    .have e5:((rcdF (rB body).1).Code==0)=true:=by simp[hc]
     have e6:((rcdF (rB body).1).Code !=0)=false:=by simp[hc]
     simp[e5,e6,hz]
    have e5:((rcdF (rB body).1).Code==0)=false:=beq_eq_false_iff_ne.2 hc;have e6:((rcdF (rB body).1).Code !=0)=true:=by simpa using hc
    simp[e5,e6,zRec,zMl]
   have hacc:(decide ((lpB body).2=some []) && ((rcdF (lpB body).1).Code==0) && (spB (lpB body).1==body))=false:=by
    cases hx:(decide ((lpB body).2=some []) && ((rcdF (lpB body).1).Code==0) && (spB (lpB body).1==body)) with
    | false=>rfl
    | true=>
     exfalso;simp only[Bool.and_eq_true,decide_eq_true_eq,beq_iff_eq]at hx;obtain ⟨⟨x1,x2⟩,x3⟩:=hx;have:=rB_enc _ (Kja body hT.2) (lpB_ok body hT.2) x2;rw[x3]at this;rw[this]at hr;exact hr rfl
   rw[hacc];simp only[Bool.false_eq_true,if_false];cases hr2:(rB body).2 with
   | none=>rfl
   | some q=>
    cases q with
    | nil=>exact absurd hr2 hr
    | cons c q=>
     simp only[show (cur (some (c::q))).bad=false from rfl,show (cur (some (c::q))).b=c::q from rfl,cond_false];rw[decide_eq_true (show (0:Int) < (((c::q).length:Nat):Int) by simp)];rfl
  have e1:(sm !=w64 (sumB body))=true:=by simpa using hs
  have e2:(sm==w64 (sumB body))=false:=beq_eq_false_iff_ne.2 hs;rw[e1,e2];simp[zRec,zMl]
theorem qVb{a b:Int}(ha:ok64 a)(hb:ok64 b)(h:num8 a=num8 b):a=b:=by
 rw[<-Vya a ha,h,Vya b hb]
theorem encT_inj{s t:Str}{x y:List UInt8}(hs:s.length<=35184372088832)(ht:t.length<=35184372088832)(h:encT s++x=encT t++y):s=t/\x=y:=by
 unfold encT at h;rw[List.append_assoc,List.append_assoc]at h;obtain ⟨h1,h2⟩:=List.append_inj h (by rw[kna,kna]);have h3:=qVb (by unfold ok64;omega) (by unfold ok64;omega) h1;exact List.append_inj h2 (by omega)
theorem Yfa(r:zha):(spE r).length=(spB r).length+16:=by
 unfold spE;rw[List.length_append,qWa,kna];omega
theorem Q3a(a b:List UInt8)(h:a.length<=9223372036854775807):qpa a b=some (b.isPrefixOf a):=by
 unfold qpa w4a;by_cases hl:b.length<=a.length
 .rw[decide_eq_true (show (b.length:Int)<=(a.length:Int) by omega),KXa hl];simp only[cond_true,Option.bind_some,Option.some.injEq];rw[Bool.eq_iff_iff,beq_iff_eq,List.isPrefixOf_iff_prefix,List.prefix_iff_eq_take];exact eq_comm
 rw[decide_eq_false (show ¬(b.length:Int)<=(a.length:Int) by omega)];simp only[cond_false,Option.bind_some,Option.some.injEq]
 symm
 rw[Bool.eq_false_iff];intro hc;rw[List.isPrefixOf_iff_prefix]at hc;exact hl hc.length_le
theorem pre_eq{b body rest:List UInt8}{sm:Int}(r:zha)(hb:b=encT body++(num8 sm++rest))(ho:ok64 sm)(hl:body.length<=1048576)(hr:(spB r).length<=17592186044416):(spE r).isPrefixOf b=((spB r==body) && (sm==w64 (sumB body))):=by
 rw[Bool.eq_iff_iff,List.isPrefixOf_iff_prefix,Bool.and_eq_true,beq_iff_eq,beq_iff_eq];constructor
 .rintro ⟨t,ht⟩;rw[hb]at ht;unfold spE at ht;rw[List.append_assoc]at ht;obtain ⟨h1,h2⟩:=encT_inj (by omega) (by omega) ht;obtain ⟨h3,_⟩:=List.append_inj h2 (by rw[kna,kna]);exact ⟨h1,by rw[<-h1];exact (qVb (qEb _) ho h3).symm⟩
 rintro ⟨h1,h2⟩;refine ⟨rest,?_⟩;unfold spE;rw[hb,h1,h2];simp
theorem Yga{b:List UInt8}{r:zha}{n:Nat}(hl:b.length<=1048576)(h:accP b=some (r,n)):kza r/\zqb r/\(rcdF r).Code=0/\(∃rest,b=spE r++rest)/\n=(spE r).length:=by
 have h0:k8a (some b):=fun b' hb=>by cases hb;exact hl
 have hT:=kSa h0;unfold accP at h;cases hrest:(pN (pT (some b)).2).2 with
 | none=>rw[hrest]at h;cases h
 | some rest=>
  rw[hrest]at h;dsimp only at h;split at h
  .rename_i hc;cases h;simp only[Bool.and_eq_true,decide_eq_true_eq,beq_iff_eq]at hc;obtain ⟨⟨⟨c1,c2⟩,c3⟩,c4⟩:=hc;obtain ⟨b1,e1,e2,e5,e6⟩:=yEa (s:=(pT (some b)).2) (n:=(pN (pT (some b)).2).1) (b:=rest) (by rw[<-hrest]);obtain ⟨b0,e3,e4,e7⟩:=Kba (s:=some b) (t:=(pT (some b)).1) (b:=b1) (by rw[<-e1]);cases e3;have hb:b=spE (lpB (pT (some b)).1).1++rest:=by
    unfold spE;rw[c3,<-c4,List.append_assoc,<-e6];exact e7
   refine ⟨Kja _ hT.2,lpB_ok _ hT.2,c2,⟨rest,hb⟩,?_⟩;have:=congrArg List.length hb;rw[List.length_append]at this;omega
  cases h
theorem accP_enc{r:zha}(h:kza r)(ho:zqb r)(hf:(rcdF r).Code=0)(hl:(spB r).length<=1048576)(rest:List UInt8):accP (spE r++rest)=some (r,(spE r).length):=by
 have e1:pT (some (spE r++rest))=(spB r,some (num8 (w64 (sumB (spB r)))++rest)):=by
  unfold spE;rw[List.append_assoc,ZFa _ hl]
 have e2:=wSa (w64 (sumB (spB r))) (qEb _) rest;unfold accP;rw[e1];dsimp only;rw[e2];dsimp only;rw[lpB_enc r h ho hf];simp[hf]
def rdsN:Nat->List UInt8->List zha × Nat
 | 0,_=>([],0)
 | k+1,b=>match accP b with
  | none=>([],0)
  | some (r,n)=>(r::(rdsN k (b.drop n)).1,n+(rdsN k (b.drop n)).2)
theorem Kka{k:Nat}{b:List UInt8}(h:accP b=none):rdsN k b=([],0):=by
 cases k with
 | zero=>rfl
 | succ k=>unfold rdsN;rw[h]
theorem Kla{k:Nat}{b:List UInt8}{r:zha}{n:Nat}(h:accP b=some (r,n)):rdsN (k+1) b=(r::(rdsN k (b.drop n)).1,n+(rdsN k (b.drop n)).2):=by
 rw[show rdsN (k+1) b=(match accP b with | none=>([],0) | some (r,n)=>(r::(rdsN k (b.drop n)).1,n+(rdsN k (b.drop n)).2)) from rfl,h]
theorem kqb(a0:List UInt8)(hl:a0.length<=1048576)(at_:Nat)(hat:at_<=a0.length)(out:List zha)(ho:out.length<=1000):vha a0 ((at_:Int),(at_:Int),out)=some (match accP (a0.drop at_) with
 | none=>.out (.inl ((at_:Int),out))
 | some (r,n)=>if out.length+1=100 then .out (.inr (((at_+n:Nat):Int),out++ [r])) else .cont (((at_+n:Nat):Int),((at_+n:Nat):Int),out++ [r])):=by
 have hdl:(a0.drop at_).length<=1048576:=by rw[List.length_drop];omega
 have h0:k8a (some (a0.drop at_)):=fun b' hb=>by cases hb;exact hdl
 have hT:=kSa h0;have hcut:cut a0 (at_:Int) (a0.length:Int)=some (a0.drop at_):=ZBa hat;cases hacc:accP (a0.drop at_) with
 | none=>
  unfold vha;dsimp only;rw[hcut];simp only[Option.bind_some];rw[show (zja.mk (a0.drop at_) false)=rdr (some (a0.drop at_)) from rfl,kda _ h0];simp only[Option.bind_some];rw[zHa _ hT.1];simp only[Option.bind_some];cases hrest:(pN (pT (some (a0.drop at_))).2).2 with
  | none=>rfl
  | some rest=>
   simp only[show (rdr (some rest)).bad=false from rfl,cond_false];rw[Q2a _ hT.2];simp only[Option.bind_some];have hsm:=Kja _ hT.2;rw[jha _ hsm];simp only[Option.bind_some];rw[Q3a _ _ (by omega)];simp only[Option.bind_some];obtain ⟨b1,e1,e2,e5,e6⟩:=yEa (s:=(pT (some (a0.drop at_))).2) (n:=(pN (pT (some (a0.drop at_))).2).1) (b:=rest) (by rw[<-hrest]);obtain ⟨b0,e3,e4,e7⟩:=Kba (s:=some (a0.drop at_)) (t:=(pT (some (a0.drop at_))).1) (b:=b1) (by rw[<-e1]);cases e3;rw[e6]at e7;have hpre:=pre_eq (lpB (pT (some (a0.drop at_))).1).1 e7 e5 hT.2 (qjb hsm);unfold accP at hacc;rw[hrest]at hacc;dsimp only at hacc;split at hacc
   .cases hacc
   rename_i hc;have:((bif (!(decide ((lpB (pT (some (a0.drop at_))).1).2=some []) && ((rcdF (lpB (pT (some (a0.drop at_))).1).1).Code==0))) then some true else some (!((spE (lpB (pT (some (a0.drop at_))).1).1).isPrefixOf (a0.drop at_)))):Option Bool)=some true:=by
    rw[hpre];rw[Bool.and_assoc,Bool.not_eq_true]at hc;cases h1:decide ((lpB (pT (some (a0.drop at_))).1).2=some []) && ((rcdF (lpB (pT (some (a0.drop at_))).1).1).Code==0) with
    | false=>rfl
    | true=>
     rw[h1,Bool.true_and]at hc;rw[hc];rfl
   rw[this];rfl
 | some rn=>
  obtain ⟨r,n⟩:=rn;obtain ⟨q1,q2,q3,⟨rest0,q4⟩,q5⟩:=Yga hdl hacc;unfold vha;dsimp only;rw[hcut];simp only[Option.bind_some];rw[show (zja.mk (a0.drop at_) false)=rdr (some (a0.drop at_)) from rfl,kda _ h0];simp only[Option.bind_some];rw[zHa _ hT.1];simp only[Option.bind_some];unfold accP at hacc;cases hrest:(pN (pT (some (a0.drop at_))).2).2 with
  | none=>rw[hrest]at hacc;cases hacc
  | some rest=>
   rw[hrest]at hacc;dsimp only at hacc;split at hacc
   .rename_i hc;cases hacc;simp only[Bool.and_eq_true]at hc;obtain ⟨⟨⟨c1,c2⟩,c3⟩,c4⟩:=hc;simp only[show (rdr (some rest)).bad=false from rfl,cond_false];rw[Q2a _ hT.2];simp only[Option.bind_some];rw[jha _ q1];simp only[Option.bind_some,c1,c2,Bool.and_self,Bool.not_true,cond_false];rw[Q3a _ _ (by omega)];have hpre:(spE (lpB (pT (some (a0.drop at_))).1).1).isPrefixOf (a0.drop at_)=true:=by
     rw[List.isPrefixOf_iff_prefix];exact ⟨rest0,q4.symm⟩
    rw[hpre];simp only[Option.bind_some,Bool.not_true,cond_false];rw[qva (by simp;omega)];simp only[Option.bind_some];have hlen:(spE (lpB (pT (some (a0.drop at_))).1).1).length<=1048576:=by
     have:=congrArg List.length q4;rw[List.length_append]at this;omega
    rw[z5b _ _ (by omega),<-q5];have e9:(((out++ [(lpB (pT (some (a0.drop at_))).1).1]).length:Int)==100)=decide (out.length+1=100):=by
     rw[List.length_append,List.length_singleton,Bool.eq_iff_iff];simp;omega
    rw[e9];by_cases h100:out.length+1=100
    .rw[decide_eq_true h100,if_pos h100];rfl
    rw[decide_eq_false h100,if_neg h100];rfl
   cases hacc
theorem ytb{b:List UInt8}{r:zha}{n:Nat}(hl:b.length<=1048576)(h:accP b=some (r,n)):16<=n/\n<=b.length:=by
 obtain ⟨_,_,_,⟨rest,h1⟩,h2⟩:=Yga hl h;have:=congrArg List.length h1;rw[List.length_append]at this;have h3:=Yfa r;omega
theorem yub(a0:List UInt8)(hl:a0.length<=1048576):∀(k at_:Nat) (out:List zha),at_<=a0.length->out.length+(k+1)=100->
 ∃z,iter (vha a0) ((at_:Int),(at_:Int),out)=some z/\(z=.inl (((at_+(rdsN (k+1) (a0.drop at_)).2:Nat):Int),out++(rdsN (k+1) (a0.drop at_)).1)∨z=.inr (((at_+(rdsN (k+1) (a0.drop at_)).2:Nat):Int),out++(rdsN (k+1) (a0.drop at_)).1)):=by
 intro k;induction k with
 | zero=>
  intro at_ out hat ho;have hs:=kqb a0 hl at_ hat out (by omega);cases hacc:accP (a0.drop at_) with
  | none=>
   rw[hacc]at hs;refine ⟨_,zEa hs,.inl ?_⟩;rw[Kka hacc];simp
  | some rn=>
   obtain ⟨r,n⟩:=rn;rw[hacc]at hs;dsimp only at hs;rw[if_pos (by omega)]at hs;refine ⟨_,zEa hs,.inr ?_⟩;rw[Kla hacc];simp[rdsN]
 | succ k ih=>
  intro at_ out hat ho;have hs:=kqb a0 hl at_ hat out (by omega);cases hacc:accP (a0.drop at_) with
  | none=>
   rw[hacc]at hs;refine ⟨_,zEa hs,.inl ?_⟩;rw[Kka hacc];simp
  | some rn=>
   obtain ⟨r,n⟩:=rn;rw[hacc]at hs;dsimp only at hs;rw[if_neg (by omega)]at hs;have hn:=ytb (by rw[List.length_drop];omega) hacc;rw[List.length_drop]at hn;rw[zTa hs];obtain ⟨z,hz1,hz2⟩:=ih (at_+n) (out++ [r]) (by omega) (by simp;omega);refine ⟨z,hz1,?_⟩;rw[Kla hacc,List.drop_drop];simpa[Nat.add_assoc]using hz2
def yvb(a0:List UInt8):List zha × Int × zqa:=if 200000 < a0.length then ([],0,⟨1, -1⟩) else ((rdsN 100 a0).1,((rdsN 100 a0).2:Int),⟨0,0⟩)
theorem Q4a(a0:List UInt8)(hl:a0.length<=1048576):w6a a0=some (yvb a0):=by
 unfold w6a yvb;by_cases hb:200000 < a0.length
 .rw[decide_eq_true (show (200000:Int) < (a0.length:Int) by omega),if_pos hb];rfl
 rw[decide_eq_false (show ¬(200000:Int) < (a0.length:Int) by omega),if_neg hb];simp only[cond_false,kEa];obtain ⟨z,hz1,hz2⟩:=yub a0 hl 99 0 [] (by omega) rfl;rw[show iter (vha a0) (0,0,([]:List zha))=some z from hz1];simp only[List.drop_zero,Nat.zero_add,List.nil_append]at hz2;rcases hz2 with rfl | rfl <;> rfl
theorem Yha(a0:List UInt8)(hl:a0.length<=1048576):yua a0=some ((rdsN 100 a0).1,((rdsN 100 a0).2:Int)):=by
 unfold yua;have key:∀(k at_:Nat) (out:List zha),at_<=a0.length->out.length+k=100->
  iter (k7a a0) ((at_:Int),out)=some (((at_+(rdsN k (a0.drop at_)).2:Nat):Int),out++(rdsN k (a0.drop at_)).1):=by
  intro k;induction k with
  | zero=>
   intro at_ out hat ho;refine (zEa (r:=((at_:Int),out)) ?_).trans (by simp[rdsN]);unfold k7a;dsimp only;rw[decide_eq_false (show ¬(out.length:Int) < 100 by omega)];rfl
  | succ k ih=>
   intro at_ out hat ho;have hcut:cut a0 (at_:Int) (a0.length:Int)=some (a0.drop at_):=ZBa hat;have hdl:(a0.drop at_).length<=1048576:=by rw[List.length_drop];omega
   cases hacc:accP (a0.drop at_) with
   | none=>
    refine (zEa (r:=((at_:Int),out)) ?_).trans (by rw[Kka hacc];simp);unfold k7a;dsimp only;rw[decide_eq_true (show (out.length:Int) < 100 by omega),hcut];simp only[cond_true,Option.bind_some];rw[K1a _ hdl,hacc];rfl
   | some rn=>
    obtain ⟨r,n⟩:=rn;have hn:=ytb hdl hacc;rw[List.length_drop]at hn;have hs:k7a a0 ((at_:Int),out)=some (.cont (((at_+n:Nat):Int),out++ [r])):=by
     unfold k7a;dsimp only;rw[decide_eq_true (show (out.length:Int) < 100 by omega),hcut];simp only[cond_true,Option.bind_some];rw[K1a _ hdl,hacc];simp only[Option.bind_some];rw[show ((n:Int)==0)=false by rw[beq_eq_false_iff_ne];omega];simp only[cond_false];rw[qva (by simp;omega),z5b _ _ (by omega)];rfl
    rw[zTa hs,ih (at_+n) (out++ [r]) (by omega) (by simp;omega),Kla hacc,List.drop_drop];simp[Nat.add_assoc]
 have:=key 100 0 [] (by omega) rfl;rw[show iter (k7a a0) (0,([]:List zha))=_ from this];simp
def yGa(e:zca):Int:=min (e.Tries+1) 1000000
def Kma(e:zca)(rs:List Int)(now:Int):Bool:=if rs.any latR then (ZIa e.Since (yGa e) now).2 else true
def v5a(e:zca)(rs:List Int)(now:Int):zca:=if rs.any latR then ⟨e.Id,e.Mail,e.Since,yGa e,if (ZIa e.Since (yGa e) now).2 then max (ZIa e.Since (yGa e) now).1 e.Due else e.Due,e.To⟩ else e
def resP(e:zca)(a:zva)(rs:List Int)(now:Int):List zla × List zia:=(a.To.zip rs).foldl (resS (Kma e rs now) a.Entry) ([],e.To)
def V7a(e:zca):Bool:=e.To.any opnW
def noE:zca:=⟨0,⟨⟨[],[],[]⟩,⟨[],[]⟩⟩,0,0,0,[]⟩
def endP(q:zza)(a:zva)(rs:List Int)(now:Int)(n:Nat)(e:zca):zza × List zla × zqa:=(⟨(q.Entries.set n (wTo (v5a e rs now) (resP e a rs now).2)).filter V7a,q.Next⟩,(resP e a rs now).1,⟨0,0⟩)
def V8a(q:zza)(a:zva)(rs:List Int)(now:Int):zza × List zla × zqa:=
 if (queF q).Code !=0 then (⟨[],0⟩,[],queF q) else if (attP q a true).2.Code !=0 then (⟨[],0⟩,[],(attP q a true).2) else
 if rs.length≠a.To.length then (⟨[],0⟩,[],⟨9, -6⟩) else if rs.any badR then (⟨[],0⟩,[],⟨3, -6⟩) else if !joa now then (⟨[],0⟩,[],⟨3, -7⟩) else
 if now < ((q.Entries[(attP q a true).1.toNat]?).getD noE).Since then (⟨[],0⟩,[],⟨19, -7⟩) else endP q a rs now (attP q a true).1.toNat ((q.Entries[(attP q a true).1.toNat]?).getD noE)
def Yia(T:List zia)(M:List zba):Prop:=T.length=M.length/\∀(j:Nat) (w:zia) (r:zba),T[j]? =some w->M[j]? =some r->wBad w r=false
theorem krb(T:List zia)(M:List zba):Yia T M↔(T.length=M.length/\((T.zip M).any fun p=>wBad p.1 p.2)=false):=by
 unfold Yia;refine and_congr Iff.rfl ?_;rw[List.any_eq_false];constructor
 .rintro h ⟨w,r⟩ hx hb;obtain ⟨j,hj⟩:=List.mem_iff_getElem?.1 hx;rw[List.getElem?_zip_eq_some]at hj;rw[h j w r hj.1 hj.2]at hb;cases hb
 intro h j w r h1 h2;have:=h (w,r) (List.mem_of_getElem? (i:=j) (by rw[List.getElem?_zip_eq_some];exact ⟨h1,h2⟩));simpa using this
theorem vPb{again:Bool}{T:List zia}{M:List zba}{kv:Int × Int}(h:Yia T M)(hv:badR kv.2=false):Yia (resK again T kv) M:=by
 refine ⟨by rw[Wna];exact h.1,fun j w r h1 h2=>?_⟩;unfold resK at h1;split at h1
 .rename_i w0 hw0;by_cases hj:kv.1.toNat=j
  .subst hj;rw[List.getElem?_set_self (zYa hw0)]at h1;cases h1;have:=h.2 _ w0 r hw0 h2;unfold wBad at this ⊢;simp only[Bool.or_eq_false_iff]at this;obtain ⟨⟨a1,a2⟩,a3⟩:=this;rw[a1];have:finV again kv.2=0∨finV again kv.2=1∨finV again kv.2=3:=by
    unfold badR at hv;simp at hv;unfold finV;cases hl:latR kv.2 with
    | true=>cases again <;> simp
    | false=>
     unfold latR at hl;simp at hl;simp only[Bool.false_eq_true,if_false];omega
   rcases this with h | h | h <;> simp[h]
  rw[List.getElem?_set_ne hj]at h1;exact h.2 j w r h1 h2
 exact h.2 j w r h1 h2
theorem Jqa{again:Bool}{id:Int}{M:List zba}:∀(l:List (Int × Int)) (s:List zla × List zia),(∀kv∈l,badR kv.2=false)->Yia s.2 M->Yia (l.foldl (resS again id) s).2 M
 | [],s,_,h=>h
 | kv::l,s,hb,h=>Jqa l _ (fun x hx=>hb x (by simp[hx])) (vPb h (hb kv (by simp)))
theorem vQb{e:zca}(h:Yia e.To e.Mail.Envelope.To):V6a e=V7a e:=by
 unfold V6a V7a;rw[krb]at h;rw[decide_eq_true h.1,h.2];rfl
theorem Q5a{e:zca}(h:V6a e=true):Yia e.To e.Mail.Envelope.To/\V7a e=true:=by
 unfold V6a at h;simp only[Bool.and_eq_true,decide_eq_true_eq,Bool.not_eq_true']at h;exact ⟨(krb _ _).2 ⟨h.1.1,h.1.2⟩,h.2⟩
theorem ksb{α:Type}{L:List α}{n:Nat}(x:α)(hn:n < L.length):L.set n x=L.take n++x::L.drop (n+1):=by
 rw[List.set_eq_take_append_cons_drop,if_pos hn]
theorem vRb{L:List zca}{n:Nat}{x:zca}(hn:n < L.length)(h:∀e∈L,V7a e=true):(L.set n x).filter V7a=if V7a x then L.set n x else L.take n++L.drop (n+1):=by
 rw[ksb x hn,List.filter_append,List.filter_cons,List.filter_eq_self.2 (fun e he=>h e (List.mem_of_mem_take he)),List.filter_eq_self.2 (fun e he=>h e (List.mem_of_mem_drop he))];split <;> rfl
theorem ywb{L2:List zca}{n:Nat}{x:zca}(hn:n < L2.length)(hl:L2.length<=1048576)(hx:L2[n]? =some x)(hxl:x.To.length<=1048576)(hg:Yia x.To x.Mail.Envelope.To):((idx L2 (n:Int)).bind fun v137=>(vba v137).bind fun v139=>(bif (!v139) then ((cut3 L2 (n:Int) ((w64 ((n:Int)+1))) ((L2.length:Int))).bind fun v143=>(bif ((n:Int)==(w64 ((n:Int)+1))) then some L2 else (cut L2 0 (n:Int)).bind fun v146=>(cut L2 ((w64 ((n:Int)+1))) (L2.length:Int)).bind fun v148=>(shft L2 (n:Int) ((w64 ((n:Int)+1)))).bind fun v150=>(WDa v150 (((((Int.toNat (n:Int))+(L2.length - (Int.toNat ((w64 ((n:Int)+1)))))):Nat):Int)) ((L2.length:Int))).bind fun v152=>some ((List.take ((Int.toNat (n:Int))+(L2.length - (Int.toNat ((w64 ((n:Int)+1)))))) ((clr0 v150 (Int.toNat (((((Int.toNat (n:Int))+(L2.length - (Int.toNat ((w64 ((n:Int)+1)))))):Nat):Int))) ((zca.mk 0 ((kca.mk ((zGa.mk (([]:Str)) ([]) (([]:Str)))) ((zxa.mk ([]) ([]))))) 0 0 0 ([])))))))):Option (List zca)).bind fun (j142:List zca)=>some j142 else some L2):Option (List zca))=some (if V7a x then L2 else L2.take n++L2.drop (n+1)):=by
 rw[zwa hx];simp only[Option.bind_some];rw[ZGa x hxl,vQb hg];simp only[Option.bind_some];cases V7a x with
 | true=>rfl
 | false=>
  simp only[Bool.not_false,cond_true,Bool.false_eq_true,if_false];rw[delAt_eq L2 n _ hn hl];rfl
theorem qWb(rs:List Int)(P:Int->Bool)(hl:rs.length<=1048576){body:Int->Option (Step Int (Unit ⊕ Int))}(hout:body (rs.length:Int)=some (.out (.inl ())))(hb:∀(i:Nat) (v:Int),rs[i]? =some v->body (i:Int)=some (if P v then .out (.inr (i:Int)) else .cont ((i+1:Nat):Int))):
 ∃z:Int,((iter body 0).bind (Sum.elim (fun _=>some ((-1))) (fun b=>some b)):Option Int)=some z/\decide (0<=z)=rs.any P:=by
 refine ⟨_,?_,kmb P rs⟩;rw[z0a rs (fun i x=>if P x then some ((i:Nat):Int) else none) (.inl ()) .inr]
 .simp only[Option.bind_some,QQa]
 .exact hout
 intro i x hx;rw[hb i x hx];cases P x <;> rfl
theorem any_bad(rs:List Int)(hl:rs.length<=1048576):∃z:Int,((iter (wKa rs) 0).bind (Sum.elim (fun _=>some ((-1))) (fun b=>some b)):Option Int)=some z/\decide (0<=z)=rs.any badR:=
 qWb rs badR hl (by unfold wKa;rw[zQa];rfl) (fun i v hv=>by
  have:=zYa hv;unfold wKa;rw[kfa hv,zwa hv];simp only[cond_true,Option.bind_some,badB,sc i (by omega)];cases badR v <;> rfl)
theorem any_late(rs:List Int)(hl:rs.length<=1048576):∃z:Int,((iter (wLa rs) 0).bind (Sum.elim (fun _=>some ((-1))) (fun b=>some b)):Option Int)=some z/\decide (0<=z)=rs.any latR:=
 qWb rs latR hl (by unfold wLa;rw[zQa];rfl) (fun i v hv=>by
  have:=zYa hv;unfold wLa;rw[kfa hv,zwa hv];simp only[cond_true,Option.bind_some,latB,sc i (by omega)];cases latR v <;> rfl)
theorem lateE_id(e:zca)(rs:List Int)(now:Int):(v5a e rs now).Id=e.Id:=by unfold v5a;split <;> rfl
theorem Jra(e:zca)(rs:List Int)(now:Int):(v5a e rs now).Mail=e.Mail:=by unfold v5a;split <;> rfl
theorem qXb(e:zca)(rs:List Int)(now:Int):wTo (v5a e rs now) e.To=v5a e rs now:=by unfold v5a;split <;> rfl
theorem qYb(e:zca)(a:zva)(rs:List Int)(now:Int):(resP e a rs now).2.length=e.To.length:=by
 unfold resP;have:∀(l:List (Int × Int)) (s:List zla × List zia),(l.foldl (resS (Kma e rs now) a.Entry) s).2.length=s.2.length:=by
  intro l;induction l with
  | nil=>intro s;rfl
  | cons kv l ih=>intro s;rw[List.foldl_cons,ih];exact Wna _ _ _
 rw[this]
theorem zip_bad{ks rs:List Int}(h:∀v∈rs,badR v=false):∀kv∈ks.zip rs,badR kv.2=false:=fun kv hkv=>h kv.2 (List.of_mem_zip hkv).2
theorem zrb(q:zza)(a:zva)(rs:List Int)(now:Int)(hq:jfa q)(hw:yAa q)(hl:a.To.length<=1048576)(hrs:rs.length<=1048576):jZa q a rs now=some (V8a q a rs now):=by
 unfold jZa V8a;rw[ZHa q a true hq hw hl];simp only[Option.bind_some,z6a,zMa,kEa,wTa];by_cases hc:(queF q).Code=0
 .obtain ⟨ok,hF⟩:=W6a hc;have h1:((queF q).Code !=0)=false:=by simp[hc]
  have hn:=ok.n;rw[h1];simp only[Bool.false_eq_true,if_false];by_cases hca:(attP q a true).2.Code=0
  .obtain ⟨n,e,ha,he,hid,ht,t1,t2⟩:=zjb hca;have hne:=zYa he;have hem:=List.mem_of_getElem? he;obtain ⟨o1,o2,o3,o4,o5⟩:=ok.ent e hem;rw[ha];simp only[bne_self_eq_false,cond_false,Bool.false_eq_true,if_false,Int.toNat_natCast,he,Option.getD_some];by_cases hlen:rs.length=a.To.length
   .rw[show ((rs.length:Int) !=(a.To.length:Int))=false by rw[hlen];simp,if_neg (fun h=>h hlen)];simp only[cond_false];obtain ⟨z,hz,hzd⟩:=any_bad rs hrs;rw[hz];simp only[Option.bind_some,hzd];cases hbad:rs.any badR with
    | true=>rfl
    | false=>
     simp only[cond_false,Bool.false_eq_true,if_false];show (bif !joa now then _ else _)=_;cases htm:joa now with
     | false=>rfl
     | true=>
      simp only[Bool.not_true,cond_false,Bool.false_eq_true,if_false,zwa he,Option.bind_some];by_cases hsi:now < e.Since
      .rw[decide_eq_true hsi,if_pos hsi];rfl
      rw[decide_eq_false hsi,if_neg hsi];simp only[cond_false];rw[vUa _ (by omega)];simp only[Option.bind_some];rw[show iter (Zpa q.Entries) (0,0,q.Entries)=some (q.Entries,q.Entries.length) from W4a q.Entries (Joa hq ok)];simp only[Option.bind_some,zwa he];have hbads:∀v∈rs,badR v=false:=fun v hv=>by rw[List.any_eq_false]at hbad;simpa using hbad v hv
      have hg:Yia (wTo (v5a e rs now) (resP e a rs now).2).To (wTo (v5a e rs now) (resP e a rs now).2).Mail.Envelope.To:=by
       show Yia (resP e a rs now).2 (v5a e rs now).Mail.Envelope.To;rw[Jra];exact Jqa _ _ (zip_bad hbads) (Q5a o5).1
      have hto:=(hw e hem).1;have htail:=ywb (L2:=q.Entries.set n (wTo (v5a e rs now) (resP e a rs now).2)) (n:=n) (x:=wTo (v5a e rs now) (resP e a rs now).2) (by simpa using hne) (by simp;omega) (by simp[hne]) (by show (resP e a rs now).2.length<=_;rw[qYb];omega) hg;have hfil:=vRb (L:=q.Entries) (x:=wTo (v5a e rs now) (resP e a rs now).2) hne (fun y hy=>(Q5a (ok.ent y hy).2.2.2.2).2);have hfil2:(if V7a (wTo (v5a e rs now) (resP e a rs now).2) then q.Entries.set n (wTo (v5a e rs now) (resP e a rs now).2) else (q.Entries.set n (wTo (v5a e rs now) (resP e a rs now).2)).take n++(q.Entries.set n (wTo (v5a e rs now) (resP e a rs now).2)).drop (n+1))=(q.Entries.set n (wTo (v5a e rs now) (resP e a rs now).2)).filter V7a:=by
       rw[hfil];split
       .rfl
       rw[ksb _ hne];have hln:(q.Entries.take n).length=n:=by simp;omega
       rw[List.take_append_of_le_length (by omega),List.take_of_length_le (by omega),List.drop_append,hln,List.drop_of_length_le (by omega)];simp
      rw[hfil2]at htail;simp only[Int.toNat_natCast]at htail;obtain ⟨y,hy,hyd⟩:=any_late rs hrs;rw[hy];simp only[Option.bind_some,hyd];have hrng:=o4;unfold rngQ at hrng;simp only[Bool.and_eq_true,decide_eq_true_eq]at hrng;have htr:1<=yGa e/\yGa e<=1000000:=by unfold yGa;omega
      have hid1:(v5a e rs now).Id=a.Entry:=by rw[lateE_id,hid]
      cases hlat:rs.any latR with
      | false=>
       simp only[cond_false,Option.bind_some];have hs:v5a e rs now=e:=by unfold v5a;rw[hlat];rfl
       have hlp:=knb (a:=a) (rs:=rs) (f:=⟨0,0⟩) (L:=q.Entries) (n:=n) (e:=e) (e1:=v5a e rs now) (again:=Kma e rs now) (j3:=((n:Int),0,0)) (j60:=(true,q.Entries)) (j63:=(0,[])) (b:=(q.Entries,q.Entries.length)) (m:=0) hne hne hl hlen hbads hid1 rfl (fun h=>by rw[hlat]at h;cases h) (fun h=>by rw[hlat]at h;cases h) (.inl rfl) a.To [] rs [] (-1) [] e.To rfl rfl rfl (by omega) ht rfl (fun j _=>rfl) (Nat.le_refl _);have hs0:q.Entries.set n (v5a e rs now)=q.Entries:=by rw[hs,zdb he]
       rw[qXb,hs0]at hlp;rw[show iter (vca a rs ((n:Int),⟨0,0⟩) (q.Entries,q.Entries.length) (true,q.Entries)) (0,([]:List zla),q.Entries)=some ((resP e a rs now).1,q.Entries.set n (wTo (v5a e rs now) (resP e a rs now).2)) from hlp];simp only[Option.bind_some];rw[htail];rfl
      | true=>
       have hw64:w64 (e.Tries+1)=e.Tries+1:=q7a (by omega) (by omega);simp only[cond_true,Option.bind_some,Kia hne,hw64,Int.toNat_natCast,List.set_set];rw[show min (e.Tries+1) 1000000=yGa e from rfl];rw[zlb e.Since (yGa e) now hrng.1.1.1 htm htr (by omega)];simp only[Option.bind_some];have hag:Kma e rs now=(ZIa e.Since (yGa e) now).2:=by unfold Kma;rw[hlat];rfl
       have hj:∀X:List zca,X=q.Entries.set n (v5a e rs now)->iter (vca a rs ((n:Int),⟨0,0⟩) (q.Entries,q.Entries.length) ((ZIa e.Since (yGa e) now).2,X)) (0,([]:List zla),X)=some ((resP e a rs now).1,q.Entries.set n (wTo (v5a e rs now) (resP e a rs now).2)):=by
        rintro X rfl;have hlp:=knb (a:=a) (rs:=rs) (f:=⟨0,0⟩) (L:=q.Entries) (n:=n) (e:=e) (e1:=v5a e rs now) (again:=Kma e rs now) (j3:=((n:Int),0,0)) (j60:=((ZIa e.Since (yGa e) now).2,q.Entries.set n (v5a e rs now))) (j63:=(if Kma e rs now then 0 else 3,[])) (b:=(q.Entries,q.Entries.length)) (m:=0) hne hne hl hlen hbads hid1 rfl (fun h=>hag.symm) (fun h=>rfl) (.inl rfl) a.To [] rs [] (-1) [] e.To rfl rfl rfl (by omega) ht rfl (fun j _=>rfl) (Nat.le_refl _);rw[qXb]at hlp;exact hlp
       have hlate:v5a e rs now=⟨e.Id,e.Mail,e.Since,yGa e,if (ZIa e.Since (yGa e) now).2 then max (ZIa e.Since (yGa e) now).1 e.Due else e.Due,e.To⟩:=by unfold v5a;rw[hlat];rfl
       cases hg2:(ZIa e.Since (yGa e) now).2 with
       | true=>
        rw[hg2]at hj hlate;simp only[cond_true,Option.bind_some,Kia hne,List.set_set,Int.toNat_natCast];rw[hj _ (by rw[hlate];rfl)];simp only[Option.bind_some];rw[htail];rfl
       | false=>
        rw[hg2]at hj hlate;simp only[cond_false,Option.bind_some];rw[hj _ (by rw[hlate];rfl)];simp only[Option.bind_some];rw[htail];rfl
   rw[show ((rs.length:Int) !=(a.To.length:Int))=true by simp;omega,if_pos hlen];rfl
  have h2:((attP q a true).2.Code !=0)=true:=by simpa using hca
  rw[h2];rfl
 have h1:((queF q).Code !=0)=true:=by simpa using hc
 rw[h1];simp only[if_true,h1,cond_true]
theorem Jsa(l:List Int)(h:l.length<=1048576):Jda l l=some true:=by
 unfold Jda;simp only[bne_self_eq_false,cond_false];rw[z0a l (fun _ _=>(none:Option Bool)) (.inl ()) .inr]
 .rw[vka.2 (fun _ _ _=>rfl)];rfl
 .unfold QLa;rw[zQa];rfl
 intro k w hw;have hk:=zYa hw;unfold QLa;rw[kfa hw,zwa hw];simp only[cond_true,Option.bind_some,bne_self_eq_false,cond_false,sc k (by omega)];rfl
theorem KLa(l:List zla)(h:l.length<=1048576):vPa l l=some true:=by
 unfold vPa;simp only[bne_self_eq_false,cond_false];rw[z0a l (fun _ _=>(none:Option Bool)) (.inl ()) .inr]
 .rw[vka.2 (fun _ _ _=>rfl)];rfl
 .unfold vAa;rw[zQa];rfl
 intro k w hw;have hk:=zYa hw;unfold vAa;rw[kfa hw,zwa hw];simp only[cond_true,Option.bind_some,beq_self_eq_true,sc k (by omega)];rfl
theorem yxb(l:List Str)(hl:l.length<=1048576):QMa l=some ⟨⟨[115,64,120],l.map (fun s=>⟨s,1⟩),[55]⟩,⟨[],[]⟩⟩:=by
 unfold QMa;have:=(Z8a l (fun i (s:List zba)=>(i,s)) (fun s x=>s++ [(⟨x,1⟩:zba)]) id (fun i s=>s.length<=i) (body:=y9a l)
  (fun s _=>by unfold y9a;simp[zQa]) (fun i x s hx hi=>by
   have hlt:=zYa hx;refine ⟨?_,by simp;omega⟩;unfold y9a;dsimp only;rw[kfa hx,zwa hx];simp only[cond_true,Option.bind_some,sc i (by omega)];rw[qva (by simp;omega)];rfl) [] (by simp)).1
 rw[this,qMb];rfl
theorem kAa:jfa ⟨[],0⟩:=⟨by simp,fun e he=>by cases he⟩
theorem Qka(q:zza)(a:zva)(hq:jfa q):jfa (Kha q a).1:=by
 unfold Kha;split
 .exact kAa
 split
 .exact kAa
 split
 .exact kAa
 show jfa ⟨Jna _ _ _,_⟩;unfold Jna;split
 .rename_i e he;refine ⟨by simp;exact hq.1,fun y hy=>?_⟩;rcases List.mem_or_eq_of_mem_set hy with hy | rfl
  .exact hq.2 y hy
  have hm:=hq.2 e (List.mem_of_getElem? he);refine ⟨hm.1,?_⟩;show (a.To.foldl onK e.To).length<=_;have:∀(l:List Int) (T:List zia),(l.foldl onK T).length=T.length:=by
   intro l;induction l with
   | nil=>intro T;rfl
   | cons k l ih=>intro T;rw[List.foldl_cons,ih,qkb]
  rw[this];exact hm.2
 exact hq
theorem Yja(again:Bool)(id:Int):∀(l:List (Int × Int)) (s:List zla × List zia),(l.foldl (resS again id) s).1.length<=s.1.length+l.length
 | [],s=>by simp
 | kv::l,s=>by
  rw[List.foldl_cons];have:=Yja again id l (resS again id s kv);have h2:(resS again id s kv).1.length<=s.1.length+1:=by unfold resS;dsimp only;split <;> simp
  simp only[List.length_cons];omega
theorem qnb(q:zza)(a:zva)(rs:List Int)(now:Int)(hq:jfa q)(hl:a.To.length<=1048576):jfa (V8a q a rs now).1/\(V8a q a rs now).2.1.length<=1048576:=by
 unfold V8a;split
 .exact ⟨kAa,by simp⟩
 split
 .exact ⟨kAa,by simp⟩
 rename_i h1 h2;obtain ⟨n,e,ha,he,_⟩:=zjb (q:=q) (a:=a) (on:=true) (by simpa using h2);split
 .exact ⟨kAa,by simp⟩
 split
 .exact ⟨kAa,by simp⟩
 split
 .exact ⟨kAa,by simp⟩
 split
 .exact ⟨kAa,by simp⟩
 rw[ha];simp only[Int.toNat_natCast,he,Option.getD_some];unfold endP;have hm:=hq.2 e (List.mem_of_getElem? he);refine ⟨⟨?_,fun y hy=>?_⟩,?_⟩
 .have:=List.length_filter_le V7a (q.Entries.set n (wTo (v5a e rs now) (resP e a rs now).2));rw[List.length_set]at this;exact Nat.le_trans this hq.1
 .rcases List.mem_or_eq_of_mem_set (List.mem_filter.1 hy).1 with hy | rfl
  .exact hq.2 y hy
  refine ⟨?_,?_⟩
  .show vTa (v5a e rs now).Mail;rw[Jra];exact hm.1
  show (resP e a rs now).2.length<=_;rw[qYb];exact hm.2
 have h3:=Yja (Kma e rs now) a.Entry (a.To.zip rs) ([],e.To);have h4:(a.To.zip rs).length<=a.To.length:=by rw[List.length_zip];omega
 show ((a.To.zip rs).foldl (resS (Kma e rs now) a.Entry) ([],e.To)).1.length<=_;simp only[List.length_nil]at h3;omega
end Go.Proofs.YtdblnmhmmfahkaaGreat
