/- Part 4 of the proof of the law SpoolChangesAreFound: what it needs. -/
import Derived.Test.YtdblnmhmmfahkaaGreatKSpoolChangesAreFound3
import Derived.Laws.RangeAny
import Derived.Lib.ItoaMem
set_option linter.unusedVariables false
set_option linter.unusedSimpArgs false
set_option maxRecDepth 100000
set_option maxHeartbeats 40000000
namespace Go.Proofs.YtdblnmhmmfahkaaGreat
open Go.RowKit Go.Proofs.Tryz
def kcb(c:UInt8):Bool:=(decide (97<=c) && decide (c<=122)) || (decide (65<=c) && decide (c<=90)) || (decide (48<=c) && decide (c<=57))
def QQa(c:UInt8):Bool:=(decide (97<=c) && decide (c<=122)) || (decide (48<=c) && decide (c<=57)) || c==45 || c==46
def kdb(c:UInt8):Bool:=kcb c || c==45 || c==95 || c==46 || c==43 || c==61
def Yaa:Bool->Str->Bool
 | p,[]=> !p
 | p,c::r=>if c=46 then !p && Yaa true r else Yaa false r
def domP(s:Str):Bool:=decide (s.length<=60) && s.all QQa && Yaa true s
def atP(s:Str):Nat:=s.findIdx (· ==64)
def Y4a(s:Str):Bool:=decide (atP s < s.length) && decide (1<=atP s) && decide (atP s<=60) && (s.take (atP s)).all kdb && domP (s.drop (atP s+1))
theorem Yba(k:Nat)(c:UInt8)(hk:OfNat.ofNat k < 256):decide ((no_index (OfNat.ofNat k:Int))<=(c.toNat:Int))=decide ((OfNat.ofNat k:UInt8)<=c):=by
 have e:(OfNat.ofNat k:Int)=((OfNat.ofNat k:Nat):Int):=rfl;have h2:(OfNat.ofNat k:UInt8).toNat=(OfNat.ofNat k:Nat):=by
  show (UInt8.ofNat k).toNat=k;rw[jCt];exact jDc hk
 rw[jAz,decide_eq_true_eq,decide_eq_true_eq,UInt8.le_iff_toNat_le,h2,e];omega
theorem Yca(k:Nat)(c:UInt8)(hk:OfNat.ofNat k < 256):decide ((c.toNat:Int)<=(no_index (OfNat.ofNat k:Int)))=decide (c<=(OfNat.ofNat k:UInt8)):=by
 have e:(OfNat.ofNat k:Int)=((OfNat.ofNat k:Nat):Int):=rfl;have h2:(OfNat.ofNat k:UInt8).toNat=(OfNat.ofNat k:Nat):=by
  show (UInt8.ofNat k).toNat=k;rw[jCt];exact jDc hk
 rw[jAz,decide_eq_true_eq,decide_eq_true_eq,UInt8.le_iff_toNat_le,h2,e];omega
theorem R_In_eq(a b c:Int):R_In a b c=some (decide (b<=a) && decide (a<=c)):=by
 unfold R_In;cases decide (b<=a) <;> rfl
theorem Zja(c:UInt8):v1a c=some (kcb c):=by
 unfold v1a kcb;simp only[Yba 97 c (by decide),Yca 122 c (by decide),Yba 65 c (by decide),Yca 90 c (by decide),Yba 48 c (by decide),Yca 57 c (by decide)];cases decide ((97:UInt8)<=c) <;> cases decide (c<=122) <;> cases decide ((65:UInt8)<=c) <;> cases decide (c<=90) <;> cases decide ((48:UInt8)<=c) <;> cases decide (c<=57) <;> rfl
theorem Y5a(s:Str):∀p,Yaa p s=(!(p && (s.isEmpty || s.head? ==some 46)) && !(s.getLast? ==some 46) && !Lib.contains s [46,46]):=by
 induction s with
 | nil=>intro p;cases p <;> simp[Yaa,Lib.contains,Lib.index]
 | cons c r ih=>
  intro p;have hcont:Lib.contains (c::r) [46,46]=((c==46 && r.head? ==some 46) || Lib.contains r [46,46]):=by
   unfold Lib.contains;rw[Lib.index];have hpre:([46,46]:List UInt8).isPrefixOf (c::r)=(c==46 && r.head? ==some 46):=by
    cases r with
    | nil=>simp[List.isPrefixOf]
    | cons d r=>simp only[List.isPrefixOf,List.head?_cons,Bool.and_true];rw[jAz];simp;constructor <;> rintro ⟨rfl,rfl⟩ <;> exact ⟨rfl,rfl⟩
   rw[hpre];have hg:=Lib.index_ge r [46,46];cases c==46 && r.head? ==some 46 with
   | true=>simp
   | false=>
    simp only[jAj,if_false,jDq];by_cases h:Lib.index r [46,46]= -1
    .simp[h]
    have:(Lib.index r [46,46]== -1)=false:=by simpa using h
    rw[this];simp only[jAj,if_false];rw[jAz];simp;omega
  rw[hcont,Yaa];have hlast:(c::r).getLast? =if r.isEmpty then some c else r.getLast? :=by cases r <;> simp
  rw[hlast];by_cases hc:c=46
  .subst hc;rw[if_pos rfl,ih true];cases r with
   | nil=>simp
   | cons d r=>cases p <;> cases hd:(d==46) <;> simp_all [Bool.and_comm,Bool.and_assoc,Bool.and_left_comm]
  have h1:(c==46)=false:=by simpa using hc
  have h2:(some c==some (46:UInt8))=false:=by simpa using hc
  rw[if_neg hc,ih false];cases r with
  | nil=>simp[h1,h2,Lib.contains,Lib.index,hc]
  | cons d r=>simp[h1,h2,hc]
theorem ZGa(s t:Str):k0a s t=some (t.isPrefixOf s):=by
 unfold k0a kwa;by_cases h:t.length<=s.length
 .have:decide ((t.length:Int)<=(s.length:Int))=true:=by simp;omega
  rw[this,QOa h];simp only[cond_true,jAb,Option.some.injEq];rw[jAz,beq_iff_eq,jCs,List.prefix_iff_eq_take];constructor <;> exact fun h=>h.symm
 have:decide ((t.length:Int)<=(s.length:Int))=false:=by simp;omega
 rw[this];simp only[cond_false,jAb,Option.some.injEq]
 symm
 rw[Bool.eq_false_iff];intro hp;exact h (jCs.1 hp).length_le
theorem ZHa(s t:Str)(hs:s.length<=9223372036854775806):k1a s t=some (t.isSuffixOf s):=by
 unfold k1a kxa;by_cases h:t.length<=s.length
 .have:decide ((t.length:Int)<=(s.length:Int))=true:=by simp;omega
  rw[this,vUb _ _ h (by omega),V0a (by omega)];simp only[cond_true,jAb,Option.some.injEq];rw[jAz,beq_iff_eq,List.isSuffixOf_iff_suffix,List.suffix_iff_eq_drop];constructor <;> exact fun h=>h.symm
 have:decide ((t.length:Int)<=(s.length:Int))=false:=by simp;omega
 rw[this];simp only[cond_false,jAb,Option.some.injEq]
 symm
 rw[Bool.eq_false_iff];intro hp;exact h (List.isSuffixOf_iff_suffix.1 hp).length_le
theorem dom_char(c:UInt8):((bif decide ((97:UInt8)<=c) then (bif decide (c<=122) then some true else (bif decide ((48:UInt8)<=c) then (bif decide (c<=57) then some true else (bif (c==45) then some true else some (c==46))) else (bif (c==45) then some true else some (c==46)))) else (bif decide ((48:UInt8)<=c) then (bif decide (c<=57) then some true else (bif (c==45) then some true else some (c==46))) else (bif (c==45) then some true else some (c==46)))):Option Bool)=some (QQa c):=by
 unfold QQa;cases decide ((97:UInt8)<=c) <;> cases decide (c<=122) <;> cases decide ((48:UInt8)<=c) <;> cases decide (c<=57) <;> cases (c==45) <;> rfl
theorem yNa(s:Str)(hs:s.length < 4294967281):qMa s=some (domP s):=by
 have hloop:iter (qva s) 0=some ((kCa (fun _ c=>if !QQa c then some () else none) 0 s).elim (.inl ()) .inr):=by
  refine kKa s _ (Sum.inl ()) Sum.inr ?_ ?_
  .unfold qva;rw[z5a];rfl
  intro i c hc;have hi:=z4a hc;unfold qva;rw[kta hc,zFa hc];simp only[cond_true,jAb,VZa c 45 (by decide),VZa c 46 (by decide),Yba 97 c (by decide),Yca 122 c (by decide),Yba 48 c (by decide),Yca 57 c (by decide),dom_char];rw[show ((i:Int)+1)=((i+1:Nat):Int) by omega,qxb _ (by omega)];cases QQa c <;> rfl
 unfold qMa domP;rw[hloop,Qwa,Y5a];by_cases hn:s=[]
 .subst hn;simp
 have h1:(s !=([]:Str))=true:=by simpa using hn
 rw[h1];simp only[cond_true];by_cases hl:s.length<=60
 .have h2:decide ((s.length:Int)<=60)=true:=by simp;omega
  rw[h2];have hall:s.any (fun c=> !QQa c)= !(s.all QQa):=by simp[List.not_all_eq_any_not]
  rw[hall];cases hg:s.all QQa with
  | false=>simp[hl]
  | true=>
   simp only[jBh,jAj,if_false,Option.elim,jAb,cond_true,ZGa,ZHa s [46] (by omega),k6a,if_pos hs];have hp:([46]:Str).isPrefixOf s=(s.head? ==some 46):=by
    cases s with
    | nil=>rfl
    | cons d r=>simp only[List.isPrefixOf,List.head?_cons,Bool.and_true];rw[jAz];simp;exact ⟨fun h=>h.symm,fun h=>h.symm⟩
   have hsf:([46]:Str).isSuffixOf s=(s.getLast? ==some 46):=by
    rw[jAz,List.isSuffixOf_iff_suffix,beq_iff_eq];constructor
    .rintro ⟨t,rfl⟩;simp
    intro h;obtain ⟨ys,rfl⟩:=List.getLast?_eq_some_iff.1 h;exact ⟨ys,rfl⟩
   have he:s.isEmpty=false:=by simpa using hn
   rw[hp,hsf,he];cases s.head? ==some 46 <;> cases s.getLast? ==some 46 <;> cases Lib.contains s [46,46] <;> simp[hl]
 have h2:decide ((s.length:Int)<=60)=false:=by simp;omega
 rw[h2];simp[hl]
theorem Y6a(s:Str):Lib.index s [64]=if atP s < s.length then (atP s:Int) else -1:=by
 rw[Lib.index_one];unfold atP;induction s with
 | nil=>rfl
 | cons c r ih=>
  rw[Lib.indexByte,List.findIdx_cons];cases hc:(c==64) with
  | true=>simp
  | false=>
   simp only[jAj,if_false,cond_false,jCl];rw[ih];by_cases h:r.findIdx (· ==64) < r.length
   .simp only[if_pos h,if_pos (show r.findIdx (· ==64)+1 < r.length+1 by omega)];have:(((r.findIdx (· ==64):Nat):Int)== -1)=false:=by rw[beq_eq_false_iff_ne];omega
    rw[this];simp
   simp only[if_neg h,if_neg (show ¬(r.findIdx (· ==64)+1 < r.length+1) by omega)];simp
theorem cut_at(s:Str):Lib.cut s [64]=if atP s < s.length then (s.take (atP s),s.drop (atP s+1),true) else (s,[],false):=by
 unfold Lib.cut;rw[Y6a];by_cases h:atP s < s.length
 .rw[if_pos h,if_pos h,if_pos (by omega)];simp
 rw[if_neg h,if_neg h,if_neg (by omega)]
def Yda(s:Str):Str × Str × Bool:=if atP s < s.length then (s.take (atP s),s.drop (atP s+1),Y4a s) else (s,[],false)
theorem v2b(c:UInt8):(kcb c || decide (0<=Lib.indexByte [45,95,46,43,61] c))=kdb c:=by
 unfold kdb;by_cases h1:c=45
 .subst h1;decide
 by_cases h2:c=95
 .subst h2;decide
 by_cases h3:c=46
 .subst h3;decide
 by_cases h4:c=43
 .subst h4;decide
 by_cases h5:c=61
 .subst h5;decide
 rw[beq_eq_false_iff_ne.2 h1,beq_eq_false_iff_ne.2 h2,beq_eq_false_iff_ne.2 h3,beq_eq_false_iff_ne.2 h4,beq_eq_false_iff_ne.2 h5];simp[Lib.indexByte,Ne.symm h1,Ne.symm h2,Ne.symm h3,Ne.symm h4,Ne.symm h5]
theorem jha(s:Str)(hs:s.length < 4294967281):vca s=some (Yda s):=by
 have hloop:∀v:Str × Str × Bool,v.1.length < 4294967281->iter (qNa v) 0=some ((kCa (fun _ c=>if !kdb c then some () else none) 0 v.1).elim (.inl ()) .inr):=by
  intro v hv;refine kKa v.1 _ (Sum.inl ()) Sum.inr ?_ ?_
  .unfold qNa;rw[z5a];rfl
  intro i c hc;have hi:=z4a hc;unfold qNa;rw[kta hc,zFa hc];simp only[cond_true,jAb,Zja,kia];rw[show ((i:Int)+1)=((i+1:Nat):Int) by omega,qxb _ (by omega)];have hg:=v2b c;cases hl:kcb c with
  | true=>rw[hl]at hg;simp only[Bool.true_or]at hg;rw[<-hg];rfl
  | false=>rw[hl]at hg;simp only[jDq]at hg;rw[<-hg];cases decide (0<=Lib.indexByte [45,95,46,43,61] c) <;> rfl
 unfold vca vXa;rw[if_pos hs,cut_at];simp only[jAb];unfold Yda;by_cases h:atP s < s.length
 .simp only[if_pos h,cond_true];rw[hloop _ (by simp;omega),Qwa];have hall:(s.take (atP s)).any (fun c=> !kdb c)= !((s.take (atP s)).all kdb):=by simp[List.not_all_eq_any_not]
  simp only[hall];have hlen:(s.take (atP s)).length=atP s:=by simp;omega
  rw[hlen,yNa _ (by simp;omega)];unfold Y4a;by_cases h0:atP s=0
  .simp[h0]
  have hne:(s.take (atP s) !=([]:Str))=true:=by
   simp only[bne_iff_ne,ne_eq];intro hx;have:=congrArg List.length hx;rw[hlen]at this;simp at this;omega
  rw[hne];by_cases h60:atP s<=60
  .have e:decide ((atP s:Int)<=60)=true:=by simp;omega
   rw[e];cases (s.take (atP s)).all kdb <;> simp[h,h60] <;> omega
  have e:decide ((atP s:Int)<=60)=false:=by simp;omega
  rw[e];simp[h60]
 simp[if_neg h]
theorem keb(s:Str):(Yda s).2.2=Y4a s:=by
 unfold Yda;by_cases h:atP s < s.length
 .rw[if_pos h]
 rw[if_neg h];unfold Y4a;simp[h]
theorem yra(s:Str)(hs:s.length < 4294967281):qqa s=some (Y4a s):=by
 unfold qqa;rw[jha s hs];simp[keb]
abbrev Lft:=Option (List UInt8)
def rdr:Lft->zha
 | none=>⟨[],true⟩
 | some b=>⟨b,false⟩
def cur:Lft->kda
 | none=>⟨[],true⟩
 | some b=>⟨b,false⟩
def pN:Lft->Int × Lft
 | none=>(0,none)
 | some b=>if b.length < 8 then (0,none) else (v0b (b.take 8),some (b.drop 8))
def pT(s:Lft):Str × Lft:=match pN s with
 | (n,some b)=>if 0<=n/\n<=(b.length:Int) then (b.take n.toNat,some (b.drop n.toNat)) else ([],none)
 | (_,none)=>([],none)
theorem kOb:∀(a b:List UInt8),valB (a++b)=valB a+256 ^ a.length * valB b
 | [],b=>by simp[valB]
 | c::a,b=>by
  show c.toNat+256 * valB (a++b)=c.toNat+256 * valB a+256 ^ (a.length+1) * valB b;rw[kOb a b,Nat.pow_succ,Nat.mul_add,jBv,jDl (256 ^ a.length) 256,Nat.mul_assoc]
theorem or_shl(u c i:Nat)(hu:u < 256 ^ i)(hc:c < 256)(hi:i < 8):uOr (u:Int) (uShl (c:Int) (w64 (8 * (i:Int))))=((u+256 ^ i * c:Nat):Int):=by
 have hp:(256:Nat) ^ i=2 ^ (8 * i):=by rw[Nat.pow_mul]
 have hle:256 ^ i * 256<=256 ^ 8:=by rw[<-Nat.pow_succ];exact Nat.pow_le_pow_right (by decide) (by omega)
 have h8:(256:Nat) ^ 8=18446744073709551616:=by decide
 have hcc:256 ^ i * c+256 ^ i<=256 ^ i * 256:=by rw[<-Nat.mul_succ];exact Nat.mul_le_mul_left _ hc
 have hpos:0 < 256 ^ i:=Nat.pow_pos (by decide);have hs:uShl (c:Int) (w64 (8 * (i:Int)))=((256 ^ i * c:Nat):Int):=by
  unfold uShl wu64;rw[vga (by omega) (by omega),show (8 * (i:Int)).toNat=8 * i by omega,Nat.min_eq_left (by omega)];have h2:((2:Int) ^ (8 * i))=((256 ^ i:Nat):Int):=by
   rw[hp,Int.natCast_pow];rfl
  rw[h2,Int.mul_comm,<-Int.natCast_mul];omega
 rw[hs];unfold uOr;rw[BitVec.toNat_or,BitVec.toNat_ofInt,BitVec.toNat_ofInt];have e1:((u:Int) % ((2 ^ 64:Nat):Int)).toNat=u:=by
  rw[show ((2 ^ 64:Nat):Int)=18446744073709551616 by decide];omega
 have e2:(((256 ^ i * c:Nat):Int) % ((2 ^ 64:Nat):Int)).toNat=256 ^ i * c:=by
  rw[show ((2 ^ 64:Nat):Int)=18446744073709551616 by decide];omega
 rw[e1,e2,Nat.or_comm,hp];rw[hp]at hu;rw[<-Nat.two_pow_add_eq_or_of_lt hu]
 congr 1
 omega
theorem qBb(x:zha){body:Int × Int->Option (Step (Int × Int) Int)}(hb:body=kAa x)(hl:8<=x.b.length):∀(k i:Nat),i+k=8->
 iter body ((valB (x.b.take i):Int),(i:Int))=some (valB (x.b.take 8):Int):=by
 intro k;induction k with
 | zero=>
  intro i hi;obtain rfl:i=8:=by omega
  subst hb;refine zUa ?_;unfold kAa;simp
 | succ k ih=>
  intro i hi;have hx:x.b[i]? =some x.b[i]:=jAi (by omega);generalize x.b[i]=c at hx;have hc:=UInt8.toNat_lt c;have htl:(x.b.take i).length=i:=by rw[jBu];omega
  have hv:=kbb (x.b.take i);rw[htl]at hv;have ht:x.b.take (i+1)=x.b.take i++ [c]:=by
   rw[List.take_add_one,hx];rfl
  have hc:body ((valB (x.b.take i):Int),(i:Int))=some (.cont ((valB (x.b.take (i+1)):Int),((i+1:Nat):Int))):=by
   subst hb;unfold kAa;dsimp only;rw[decide_eq_true (show (i:Int) < 8 by omega),zFa hx];have hn:nng (w64 (8 * (i:Int)))=some true:=by
    unfold nng;rw[vga (by omega) (by omega),if_pos (by omega)]
   simp only[cond_true,jAb,hn,sc i (by omega)];rw[or_shl _ _ i hv hc (by omega),ht,kOb,htl];simp[valB]
  rw[z3a hc];exact ih (i+1) (by omega)
theorem zHa(s:Lft)(h:∀b,s=some b->b.length<=1048576):zCa (rdr s)=some ((pN s).1,rdr (pN s).2):=by
 cases s with
 | none=>rfl
 | some b=>
  have hbl:=h b rfl;unfold zCa pN rdr;dsimp only;by_cases hb:b.length < 8
  .rw[decide_eq_true (show (b.length:Int) < 8 by omega),if_pos hb];rfl
  rw[decide_eq_false (show ¬(b.length:Int) < 8 by omega),if_neg hb];simp only[cond_false];have:=qBb ⟨b,false⟩ rfl (by show 8<=b.length;omega) 8 0 rfl;rw[show iter (kAa ⟨b,false⟩) (0,0)=_ from this];simp only[jAb];rw[show ((8:Int))=((8:Nat):Int) from rfl,V0a (by omega)];rfl
theorem Yea{s:Lft}{n:Int}{b:List UInt8}(h:pN s=(n,some b)):∃b0,s=some b0/\b.length+8=b0.length/\ok64 n/\b0=num8 n++b:=by
 cases s with
 | none=>cases h
 | some b0=>
  unfold pN at h;dsimp only at h;split at h
  .cases h
  rename_i hb;cases h;have h8:(b0.take 8).length=8:=by rw[jBu];omega
  refine ⟨b0,rfl,by rw[jCg];omega,W9a _,?_⟩;rw[qAb _ h8,List.take_append_drop]
theorem jQa(n:Int)(h:ok64 n)(b:List UInt8):pN (some (num8 n++b))=(n,some b):=by
 unfold pN;dsimp only;have h8:=zLa n;rw[if_neg (by rw[jAg];omega),List.take_left' h8,List.drop_left' h8,Qya n h]
theorem QRa(s:Str)(h:s.length<=1048576)(b:List UInt8):pT (some (encT s++b))=(s,some b):=by
 unfold pT encT;rw[jAp,jQa _ (by unfold ok64;omega)];dsimp only;rw[if_pos ⟨by omega,by rw[jAg];omega⟩];simp
theorem Yfa{s:Lft}{t:Str}{b:List UInt8}(h:pT s=(t,some b)):∃b0,s=some b0/\b.length+8+t.length=b0.length/\b0=encT t++b:=by
 unfold pT at h;split at h
 .rename_i n b1 hn;obtain ⟨b0,rfl,h1,h2,h3⟩:=Yea hn;split at h
  .rename_i hc;cases h;have hl:(b1.take n.toNat).length=n.toNat:=by rw[jBu];omega
   refine ⟨b0,rfl,by rw[jCg,hl];omega,?_⟩;unfold encT;rw[hl,Int.toNat_of_nonneg hc.1,jAp,List.take_append_drop];exact h3
  cases h
 cases h
theorem pN_none(s:Lft):(pN s).2=none∨∃b b0,(pN s).2=some b/\s=some b0/\b.length+8=b0.length:=by
 cases h:(pN s).2 with
 | none=>exact .inl rfl
 | some b=>
  obtain ⟨b0,h1,h2,_⟩:=Yea (s:=s) (n:=(pN s).1) (b:=b) (by rw[<-h]);exact .inr ⟨b,b0,rfl,h1,h2⟩
def qma(s:Lft):Prop:=∀b,s=some b->b.length<=1048576
theorem kpa{s:Lft}(h:qma s):qma (pN s).2:=by
 intro b hb;rcases pN_none s with h1 | ⟨b1,b0,h1,h2,h3⟩
 .rw[h1]at hb;cases hb
 rw[h1]at hb;cases hb;have:=h b0 h2;omega
theorem k5a{s:Lft}(h:qma s):qma (pT s).2/\(pT s).1.length<=1048576:=by
 cases hp:(pT s).2 with
 | none=>
  refine ⟨fun b hb=>(by cases hb),?_⟩;unfold pT at hp ⊢;split at hp
  .split at hp
   .cases hp
   rename_i hc;rw[if_neg hc];simp
  simp
 | some b=>
  obtain ⟨b0,h1,h2,_⟩:=Yfa (s:=s) (t:=(pT s).1) (b:=b) (by rw[<-hp]);have:=h b0 h1;exact ⟨fun b' hb=>by cases hb;omega,by omega⟩
theorem kba(s:Lft)(h:qma s):z2a (rdr s)=some ((pT s).1,rdr (pT s).2):=by
 have hs:=kpa h;unfold z2a pT;rw[zHa s h];simp only[jAb];generalize pN s=q at hs;obtain ⟨n,q2⟩:=q;cases q2 with
 | none=>
  unfold rdr;dsimp only;by_cases hn:n < 0
  .rw[decide_eq_true hn];rfl
  rw[decide_eq_false hn];by_cases h0:n=0
  .subst h0;rfl
  simp only[jCx,cond_false,jAb];rw[decide_eq_true (show ((0:Nat):Int) < n by omega)];rfl
 | some b=>
  have hb:=hs b rfl;unfold rdr;dsimp only;by_cases hc:0<=n/\n<=(b.length:Int)
  .rw[if_pos hc,decide_eq_false (show ¬n < 0 by omega)];simp only[cond_false,jAb];rw[decide_eq_false (show ¬(b.length:Int) < n by omega)];obtain ⟨m,rfl⟩:∃m:Nat,n=(m:Int):=⟨n.toNat,by omega⟩;simp only[cond_false];rw[QOa (by omega),V0a (by omega)];rfl
  rw[if_neg hc];by_cases hn:n < 0
  .rw[decide_eq_true hn];rfl
  rw[decide_eq_false hn];simp only[cond_false,jAb];rw[decide_eq_true (show (b.length:Int) < n by omega)];rfl
theorem ZZa(o:Option Unit)(a b:Bool):Sum.elim (fun _=>some a) (fun _=>some b) (o.elim (Sum.inl ()) Sum.inr:Unit ⊕ Unit)=some (bif o.isSome then b else a):=by cases o <;> rfl
theorem KLa{α R:Type}(c:α->Bool)(r:R)(l:List α)(n:Nat):(kCa (fun _ x=>if c x then some r else none) n l).isSome=l.any c:=by
 rw[Qwa];cases l.any c <;> rfl
theorem v3b{α:Type}(l:List α)(p:α->Bool):l.any (fun x=> !p x)= !l.all p:=by simp[List.not_all_eq_any_not]
theorem R_At_eq(a b:Int):R_At a b=some ⟨a,b⟩:=rfl
theorem zNa(a b:Int):zoa a b=some ⟨a,b⟩:=rfl
theorem kEa:kma=some ⟨0,0⟩:=rfl
theorem z6a(f:zsa):z0a f=some (f.Code !=0):=rfl
theorem Yga(o:Option zsa)(f:zsa):Sum.elim (fun _=>some f) (fun b=>some b) (o.elim (Sum.inl ()) Sum.inr:Unit ⊕ zsa)=some (o.getD f):=by cases o <;> rfl
def nameC(c:UInt8):Bool:=kcb c || c==45 || c==95 || c==46
def nameP(s:Str):Bool:=decide (1<=s.length) && decide (s.length<=60) && s.all nameC
theorem Y7a(s:Str)(hs:s.length<=1048576):y3a s=some (nameP s):=by
 have hloop:iter (wca s) 0=some ((kCa (fun _ c=>if !nameC c then some () else none) 0 s).elim (.inl ()) .inr):=by
  refine kKa s _ (Sum.inl ()) Sum.inr ?_ ?_
  .unfold wca;rw[z5a];rfl
  intro i c hc;have hi:=z4a hc;unfold wca;rw[kta hc,zFa hc];simp only[cond_true,jAb,Zja,VZa c 45 (by decide),VZa c 95 (by decide),VZa c 46 (by decide),sc i (by omega)];unfold nameC;cases kcb c <;> cases (c==45) <;> cases (c==95) <;> cases (c==46) <;> rfl
 unfold y3a nameP;rw[hloop];simp only[jAb,ZZa,KLa,v3b];by_cases hn:s=[]
 .subst hn;rfl
 have h1:(s !=([]:Str))=true:=by simpa using hn
 have h2:decide (1<=s.length)=true:=by have:=List.length_pos_iff.2 hn;simp;omega
 have e2:decide ((s.length:Int)<=60)=decide (s.length<=60):=by rw[jAz];simp;omega
 rw[h1,h2,e2];cases decide (s.length<=60) <;> cases s.all nameC <;> rfl
def noteP(n:Int):Bool:=decide (0<=n) && decide (n<=7)
def recQ(l:List zba)(i:Nat)(r:zba):Option zsa:=
 if !Y4a r.Address then some ⟨10,i⟩ else if !noteP r.Notify then some ⟨3,i⟩ else if (l.take i).any (fun x=>x.Address==r.Address) then some ⟨7,i⟩ else none
def recF(l:List zba):zsa:=(kCa (recQ l) 0 l).getD ⟨0,0⟩
def fromB(s:Str):Bool:=s !=([]:Str) && !Y4a s
def envF(e:zOa):zsa:=if fromB e.From then ⟨10, -10⟩ else if decide (e.To.length < 1) || decide (60 < e.To.length) then ⟨2, -11⟩ else if e.Id !=([]:Str) && !nameP e.Id then ⟨10, -12⟩ else recF e.To
def smallR(l:List zba):Prop:=l.length<=1048576/\∀a∈l,a.Address.length<=1048576
def kPb(e:zOa):Prop:=e.From.length<=1048576/\e.Id.length<=1048576/\smallR e.To
theorem KMa(n:Int):vqa n=some (noteP n):=by unfold vqa noteP;cases decide (0<=n) <;> rfl
theorem any_take(l:List zba)(i:Nat)(s:Str)(hl:l.length<=1048576):decide ((0:Int)<=(kCa (fun i x=>if x.Address==s then some ((i:Nat):Int) else none) 0 (l.take i)).getD (-1))=(l.take i).any (fun x=>x.Address==s):=vWb (fun x=>x.Address==s) (l.take i) 0
theorem jYa(l:List zba)(h:smallR l):qla l=some (recF l):=by
 obtain ⟨h3,h4⟩:=h;unfold qla recF;rw[kKa l (recQ l) (.inl ()) .inr]
 .simp only[jAb,kEa,Yga]
 .unfold qoa;rw[z5a];rfl
 intro i r hr;have hi:=z4a hr;have ha:=h4 r (jAe hr);have hl2:iter (kXa r (l.take i)) 0=some ((kCa (fun i x=>if x.Address==r.Address then some ((i:Nat):Int) else none) 0 (l.take i)).elim (.inl ()) .inr):=by
  refine kKa (l.take i) _ (Sum.inl ()) Sum.inr ?_ ?_
  .unfold kXa;rw[z5a];rfl
  intro k x hx;have hk:=z4a hx;simp at hk;unfold kXa;rw[kta hx,zFa hx];simp only[cond_true,jAb,sc k (by omega)];cases x.Address==r.Address <;> rfl
 unfold qoa recQ;rw[kta hr,zFa hr];simp only[cond_true,jAb,yra _ (show r.Address.length < 4294967281 by omega),zNa,KMa,QOa (Nat.le_of_lt hi),hl2,Vja,any_take _ _ _ h3,sc i (by omega)];cases Y4a r.Address <;> cases noteP r.Notify <;> cases (l.take i).any (fun x=>x.Address==r.Address) <;> rfl
theorem ZIa(e:zOa)(h:kPb e):qOa e=some (envF e):=by
 obtain ⟨h1,h2,h3⟩:=h;unfold qOa envF;rw[yra _ (by omega),Y7a _ h2,jYa _ h3];have e1:decide ((e.To.length:Int) < 1)=decide (e.To.length < 1):=by generalize e.To.length=n;rw[jAz];simp;omega
 have e2:decide ((60:Int) < (e.To.length:Int))=decide (60 < e.To.length):=by rw[jAz];simp;omega
 simp only[jAb,zNa,e1,e2];unfold fromB;cases e.From !=([]:Str) <;> cases Y4a e.From <;> cases decide (e.To.length < 1) <;> cases decide (60 < e.To.length) <;> cases e.Id !=([]:Str) <;> cases nameP e.Id <;> rfl
theorem v4b{e:zOa}(h:zOa.bk e<=1048576):kPb e:=by
 unfold zOa.bk at h;dsimp only at h;refine ⟨by omega,by omega,?_,fun a ha=>?_⟩
 .have:=Qxa (bk:=zba.bk) (fun x=>by unfold zba.bk;omega) e.To;omega
 have h5:=kab (bk:=zba.bk) ha;have h6:zba.bk a=a.Address.length+1+1+1:=rfl;omega
theorem Y8a(s:Str)(i:Nat)(h:i < s.length):(strB s)[i]'(by rw[kBa];exact h)=s[i]:=rfl
theorem v5b(s:Str)(i:Nat)(h:i < s.length):(strB s).get! i=s[i]:=by
 have:=get_at (strB s) i (by rw[kBa];exact h);rw[jCi]at this;rw[this];rfl
theorem Yha{s:Str}{i:Nat}{c:UInt8}(h:s[i]? =some c)(hc:c.toNat < 128):ZTa s i=(c.toNat:Int)/\y1a s i=1:=by
 have hi:=z4a h;have e:s[i]=c:=by rw[jAi hi]at h;exact Option.some.inj h
 have hd:=decode_ascii (strB s) i (by rw[kBa];exact hi) (by rw[Y8a s i hi,e];exact hc);unfold ZTa y1a;rw[hd,Y8a s i hi,e];exact ⟨rfl,rfl⟩
theorem v6b{s:Str}{i:Nat}{c:UInt8}(h:s[i]? =some c)(hc:128<=c.toNat):128<=ZTa s i/\ZTa s i<=2147483647/\1<=y1a s i:=by
 have hi:=z4a h;have e:s[i]=c:=by rw[jAi hi]at h;exact Option.some.inj h
 have hd:=decode_high (strB s) i (by rw[kBa];exact hi) (by rw[Y8a s i hi,e];exact hc);have hl:=decode_le (strB s) i;unfold ZTa y1a;exact ⟨by omega,by omega,hd.2⟩
theorem kfb(s:ByteArray)(pos:Nat):∀k,1<=k->k < (Utf8.decode s pos).2->(s.get! (pos+k)).toNat / 64=2:=by
 intro k h1 h2;simp only[Utf8.decode]at h2;repeat' split at h2
 all_goals first
  | (exfalso;simp at h2;omega)
  | (
   rename_i hq _;simp only[jAs,decide_eq_true_eq,beq_iff_eq]at hq;have h2:k < 2:=h2;obtain rfl:k=1:=by omega
   exact hq.2.2)
  | (
   rename_i hq _;simp only[jAs,decide_eq_true_eq,beq_iff_eq]at hq;have h2:k < 3:=h2;have:k=1∨k=2:=by omega
   rcases this with rfl | rfl
   .exact hq.1.2.2
   exact hq.2.2)
  | (
   rename_i hq _;simp only[jAs,decide_eq_true_eq,beq_iff_eq]at hq;have h2:k < 4:=h2;have:k=1∨k=2∨k=3:=by omega
   rcases this with rfl | rfl | rfl
   .exact hq.1.1.2.2
   .exact hq.1.2.2
   exact hq.2.2)
theorem v7b{s:Str}{i j:Nat}{c d:UInt8}(h:s[i]? =some c)(hc:128<=c.toNat)(h1:i<=j)(h2:j < i+y1a s i)(hj:s[j]? =some d):128<=d.toNat:=by
 by_cases e:j=i
 .subst e;rw[h]at hj;cases hj;exact hc
 have hjl:=z4a hj;have e2:s[j]=d:=by rw[jAi hjl]at hj;exact Option.some.inj hj
 have:=kfb (strB s) i (j - i) (by omega) (by unfold y1a at h2;omega);rw[show i+(j - i)=j by omega,v5b s j hjl,e2]at this;omega
theorem toU8_nat(c:UInt8):toU8 (c.toNat:Int)=c:=by
 unfold toU8;have:=c.toNat_lt;rw[show ((c.toNat:Int) % 256).toNat=c.toNat by omega];simp
theorem Yia{t:Str}(h:W7a t=true){c:UInt8}(hc:c∈t):c.toNat < 128:=by
 unfold W7a at h;rw[jAw]at h;simpa using h c hc
theorem qCb{r:Int}(h:128<=r):∃m x,1<=m/\m<=3/\(wJa r).length=m+1/\(wJa r)[m]? =some x/\128<=x.toNat:=by
 unfold wJa;simp only[Utf8.encode];have hc:128<=(if Utf8.valid r=true then r.toNat else Utf8.runeError):=by
  split
  .omega
  decide
 generalize (if Utf8.valid r=true then r.toNat else Utf8.runeError)=c at hc;have hb:∀n:Nat,128<=(UInt8.ofNat (128+n % 64)).toNat:=by
  intro n;rw[jCt];have:(128+n % 64) % 2 ^ 8=128+n % 64:=jDc (by omega);rw[this];omega
 rw[if_neg (by omega)];split
 .exact ⟨1,_,by omega,by omega,rfl,rfl,hb c⟩
 split
 .exact ⟨2,_,by omega,by omega,rfl,rfl,hb c⟩
 exact ⟨3,_,by omega,by omega,rfl,rfl,hb c⟩
theorem WDa{t:Str}(h:∀c∈t,c.toNat < 128){x:UInt8}(hx:128<=x.toNat):Lib.indexByte t x= -1:=by
 have hc:=Lib.contains_iff_indexByte t x;have hn:t.contains x=false:=by
  rw[Bool.eq_false_iff];intro hm;have:=h x (by simpa using hm);omega
 rw[hn]at hc;have hge:=Lib.indexByte_ge t x;have:=of_decide_eq_false hc.symm;omega
theorem V1a(t:Str)(c:UInt8)(hc:c.toNat < 128):kJa t (c.toNat:Int)=some (Lib.indexByte t c):=by
 unfold kJa;have h1:decide ((0:Int)<=(c.toNat:Int))=true:=by simp
 have h2:decide ((c.toNat:Int) < 128)=true:=by simp;omega
 rw[h1,h2];simp only[cond_true,jAb,toU8_nat];rfl
theorem WEa(t:Str)(r:Int)(hr:128<=r)(ht:∀c∈t,c.toNat < 128)(hl:t.length<=4294967281):kJa t r=some (-1):=by
 unfold kJa;have h1:decide ((0:Int)<=r)=true:=by simp;omega
 have h2:decide (r < 128)=false:=by simp;omega
 rw[h1,h2];simp only[cond_true,cond_false,jAb];cases hq:r==65533 with
 | true=>
  simp only[cond_true];obtain ⟨o,ho,rfl⟩:=Y3a (body:=qGa t) (fun i=>i<=t.length) (fun i=>t.length - i) (fun _ o=>o=.inl ()) (fun i hi=>by
   unfold qGa;by_cases hlt:i < t.length
   .right;have hg:t[i]? =some t[i]:=jAi hlt;have hc:=ht t[i] (List.getElem_mem hlt);obtain ⟨e1,e2⟩:=Yha hg hc;rw[e1,e2,decide_eq_true hlt];have hne:((t[i].toNat:Int)==65533)=false:=by rw[beq_eq_false_iff_ne];omega
    rw[hne];exact ⟨i+1,rfl,by omega,by omega,fun _ h=>h⟩
   left;rw[decide_eq_false hlt];exact ⟨.inl (),rfl,rfl⟩) 0 (jCp _)
  rw[ho];rfl
 | false=>
  simp only[cond_false];have hv:∃b,kWa r=some b:=by
   unfold kWa;cases decide (0<=r) <;> cases decide (r < 55296) <;> cases decide (57343 < r) <;> cases decide (r<=1114111) <;> exact ⟨_,rfl⟩
  obtain ⟨b,hb⟩:=hv;rw[hb];simp only[jAb];cases b with
  | false=>rfl
  | true=>
   simp only[jBh,cond_false];obtain ⟨m,x,hm1,hm3,hlen,hx,hx128⟩:=qCb hr;have hst:w64 (((wJa r).length:Int) - 1)=(m:Int):=by rw[hlen,vga (by omega) (by omega)];omega
   rw[hst];have hbody:∃o,qIa t r (m:Int)=some (.out o)/\(o=.inl ()∨o=.inr (-1)):=by
    unfold qIa;by_cases hlt:m < t.length
    .have hd:decide ((m:Int) < (t.length:Int))=true:=by simp;omega
     have hc:=ht t[m] (List.getElem_mem hlt);rw[hd,hst,vVb hlt,zFa hx];have hne:((t[m].toNat:Int) !=(x.toNat:Int))=true:=by simp;omega
     simp only[cond_true,jAb,hne];rw[show (m:Int)+1=((m+1:Nat):Int) by omega,qxb _ (by omega),V0a (by omega)];simp only[jAb];have hib:kia (t.drop (m+1)) x=some (-1):=by
      show some (Lib.indexByte (t.drop (m+1)) x)=_;rw[WDa (fun c hc=>ht c (jDi hc)) hx128]
     rw[hib];exact ⟨.inr (-1),rfl,.inr rfl⟩
    have hd:decide ((m:Int) < (t.length:Int))=false:=by simp;omega
    rw[hd];exact ⟨.inl (),rfl,.inl rfl⟩
   obtain ⟨o,ho,ho2⟩:=hbody;rw[zUa ho];rcases ho2 with rfl | rfl <;> rfl
theorem zhb(s t:Str)(h8:s.length<=8)(h2:2<=t.length)(hl:t.length < 4294967281)(ht:W7a t=true):vEa s t=some (Lib.indexAny s t):=by
 have htc:∀c∈t,c.toNat < 128:=fun c hc=>Yia ht hc
 unfold vEa;have e1:(t==([]:Str))=false:=by rw[beq_eq_false_iff_ne];rintro rfl;simp at h2
 have e2:((t.length:Int)==1)=false:=by rw[beq_eq_false_iff_ne];omega
 have e3:z8a (s.length:Int)=some false:=by unfold z8a;simp;omega
 rw[e1,e2,e3];simp only[cond_false,jAb];obtain ⟨o,ho,ho2⟩:=Y3a (body:=qJa s t) (fun i=>Lib.NoAny s t i) (fun i=>s.length - i) (fun _ o=>Sum.elim (fun _=>some (-1)) (fun b=>some b) o=some (Lib.indexAny s t)) (fun i hi=>by
  unfold qJa;by_cases hlt:i < s.length
  .have hg:s[i]? =some s[i]:=jAi hlt;rw[decide_eq_true hlt];simp only[cond_true];by_cases hc:s[i].toNat < 128
   .obtain ⟨q1,q2⟩:=Yha hg hc;rw[q1,q2,V1a t _ hc];simp only[jAb];have hcon:=Lib.contains_iff_indexByte t s[i];rw[<-hcon];cases hin:t.contains s[i] with
    | true=>
     left;exact ⟨.inr (i:Int),rfl,by rw[Lib.indexAny_hit hi hg hin];rfl⟩
    | false=>
     right;exact ⟨i+1,rfl,hi.succ hg hin,by omega,fun _ h=>h⟩
   have hc:128<=s[i].toNat:=by omega
   obtain ⟨q1,q2,q3⟩:=v6b hg hc;rw[WEa t _ q1 htc (by omega)];right;refine ⟨i+y1a s i,rfl,fun j b hj hb=>?_,by omega,fun _ h=>h⟩;by_cases hji:j < i
   .exact hi j b hji hb
   have:=v7b hg hc (by omega) hj hb;rw[Bool.eq_false_iff];intro hm;have:=htc b (by simpa using hm);omega
  left;rw[decide_eq_false hlt];refine ⟨.inl (),rfl,?_⟩;have hn:Lib.NoAny s t s.length:=fun j b hj hb=>hi j b (by omega) hb
  rw[Lib.indexAny_none hn];rfl) 0 (Lib.NoAny.zero s t)
 rw[ho];exact ho2
theorem zib(t:Str):∀s:Str,decide (0<=Lib.indexAny s t)=s.any fun c=>t.contains c:=by
 intro s;induction s with
 | nil=>rfl
 | cons c s ih=>
  have hge:=Lib.indexAny_ge t s;rw[List.any_cons,<-ih,Lib.indexAny];cases t.contains c with
  | true=>simp
  | false=>
   simp only[jAj,if_false,jDq];by_cases h:Lib.indexAny s t= -1
   .simp[h]
   have:(Lib.indexAny s t== -1)=false:=by simpa using h
   rw[this];simp only[jAj,if_false];rw[jAz];simp;omega
theorem jZa(s t:Str)(hs:s.length<=1048576)(h2:2<=t.length)(hl:t.length<=1048576)(ht:W7a t=true):kHa s t=some (s.any fun c=>t.contains c):=by
 unfold kHa qpa;rw[if_pos ⟨by omega,by omega,h2,ht⟩];simp only[jAb,zib]
def jRa(c:UInt8):Bool:=c==32 || c==9
theorem Z0a(c:UInt8):vra c=some (jRa c):=by
 unfold vra jRa;rw[VZa c 32 (by decide),VZa c 9 (by decide)];cases c==32 <;> rfl
def fnC(c:UInt8):Bool:=decide (33<=c) && decide (c<=126) && c !=58
def fnP(s:Str):Bool:=s !=([]:Str) && decide (s.length<=60) && s.all fnC
theorem dec60(s:Str):decide ((s.length:Int)<=60)=decide (s.length<=60):=by generalize s.length=n;rw[jAz];simp;omega
theorem zjb(s:Str)(hs:s.length<=1048576):Zea s=some (fnP s):=by
 have hloop:iter (wOa s) 0=some ((kCa (fun _ c=>if !fnC c then some () else none) 0 s).elim (.inl ()) .inr):=by
  refine kKa s _ (Sum.inl ()) Sum.inr ?_ ?_
  .unfold wOa;rw[z5a];rfl
  intro i c hc;have hi:=z4a hc;unfold wOa;rw[kta hc,zFa hc];simp only[cond_true,jAb,u8_ne c 58 (by decide),Yba 33 c (by decide),Yca 126 c (by decide),sc i (by omega)];unfold fnC;cases decide ((33:UInt8)<=c) <;> cases decide (c<=126) <;> cases c !=58 <;> rfl
 unfold Zea fnP;rw[hloop];simp only[jAb,ZZa,KLa,v3b,dec60];cases s !=([]:Str) <;> cases decide (s.length<=60) <;> cases s.all fnC <;> rfl
def endC(c:UInt8):Bool:=c==13 || c==10 || c==0
theorem zkb(s:Str)(hs:s.length<=1048576):Zfa s=some (s.any endC):=by
 unfold Zfa;rw[jZa s _ hs (by decide) (by decide) (by decide)];simp only[jAb,Option.some.injEq]
 congr 1
 funext c;rw[jAz];simp[endC,or_assoc]
def edgeP(s:Str):Bool:=match s.head?,s.getLast? with | some a,some b=>jRa a || jRa b | _,_=>false
def valP(s:Str):Bool:= !(s.any endC) && !(edgeP s)
theorem idx_last(s:Str)(h:s≠ [])(hs:s.length<=1048576):∃a b,idx s 0=some a/\idx s (w64 ((s.length:Int) - 1))=some b/\s.head? =some a/\s.getLast? =some b:=by
 have hpos:=List.length_pos_iff.2 h;obtain ⟨a,r,rfl⟩:=List.exists_cons_of_ne_nil h;have e:w64 (((a::r).length:Int) - 1)=((r.length:Nat):Int):=by
  have hl:(a::r).length=r.length+1:=rfl;rw[vga (by omega) (by omega)];omega
 refine ⟨a,(a::r).getLast h,rfl,?_,rfl,List.getLast?_eq_some_getLast h⟩;rw[e,Qua,List.getLast_eq_getElem h,jAi (by simp)]
 congr 2
theorem Y9a(s:Str)(hs:s.length<=1048576):y4a s=some (valP s):=by
 unfold y4a valP;rw[zkb s hs];simp only[jAb];by_cases hn:s=[]
 .subst hn;rfl
 obtain ⟨a,b,h1,h2,h3,h4⟩:=idx_last s hn hs;have e:(s==([]:Str))=false:=by simpa using hn
 unfold edgeP;rw[h1,h2,h3,h4,e];simp only[jAb,Z0a,cond_false];cases s.any endC <;> cases jRa a <;> cases jRa b <;> rfl
def br(t:Str)(f i:Nat):Bool:=decide (1<=i) && decide (f<=i) && (match t[i]?,t[i - 1]? with | some a,some b=>jRa a && !jRa b | _,_=>false)
def Jaa(t:Str)(f:Nat):Nat->Nat
 | 0=>0
 | i+1=>if br t f (i+1) then i+1 else Jaa t f i
def kgb(t:Str)(f:Nat):Nat->Nat->Nat
 | 0,_=>0
 | n+1,i=>if br t f i then i else kgb t f n (i+1)
def cutP(t:Str)(f:Nat):Nat:=if Jaa t f 78=0 then kgb t f (t.length - 79) 79 else Jaa t f 78
def khb(t:Str)(f c:Nat):Prop:=(c=0/\∀j,br t f j=false)∨(br t f c=true/\((c<=78/\∀j,c < j->j<=78->br t f j=false)∨(78 < c/\∀j,j < c->br t f j=false)))
theorem v8b(t:Str)(f:Nat):br t f 0=false:=rfl
theorem kib{t:Str}{f i:Nat}(h:br t f i=true):i < t.length/\1<=i/\f<=i:=by
 unfold br at h;simp only[jAs,decide_eq_true_eq]at h;obtain ⟨⟨h1,h2⟩,h3⟩:=h;refine ⟨?_,h1,h2⟩;cases hi:t[i]? with
 | none=>rw[hi]at h3;simp at h3
 | some a=>exact z4a hi
theorem zlb{t:Str}{f c d:Nat}(h:khb t f c)(k:khb t f d):c=d:=by
 rcases h with ⟨rfl,h⟩ | ⟨hc,h⟩ <;> rcases k with ⟨rfl,k⟩ | ⟨hd,k⟩
 .rfl
 .rw[h]at hd;cases hd
 .rw[k]at hc;cases hc
 rcases Nat.lt_trichotomy c d with hlt | heq | hgt
 .exfalso;rcases h with ⟨h1,h2⟩ | ⟨h1,h2⟩ <;> rcases k with ⟨k1,k2⟩ | ⟨k1,k2⟩
  .rw[h2 d hlt k1]at hd;cases hd
  .rw[k2 c hlt]at hc;cases hc
  .omega
  rw[k2 c hlt]at hc;cases hc
 .exact heq
 exfalso;rcases h with ⟨h1,h2⟩ | ⟨h1,h2⟩ <;> rcases k with ⟨k1,k2⟩ | ⟨k1,k2⟩
 .rw[k2 c hgt h1]at hc;cases hc
 .omega
 .rw[h2 d hgt]at hd;cases hd
 rw[h2 d hgt]at hd;cases hd
theorem qDb(t:Str)(f:Nat):∀n,(Jaa t f n=0/\∀j,j<=n->br t f j=false)∨(br t f (Jaa t f n)=true/\Jaa t f n<=n/\∀j,Jaa t f n < j->j<=n->br t f j=false):=by
 intro n;induction n with
 | zero=>left;exact ⟨rfl,fun j hj=>by
  obtain rfl:j=0:=by omega
  exact v8b t f⟩
 | succ n ih=>
  unfold Jaa;by_cases h:br t f (n+1)=true
  .rw[if_pos h];right;exact ⟨h,jBc _,fun j h1 h2=>by omega⟩
  rw[if_neg h];rcases ih with ⟨h1,h2⟩ | ⟨h1,h2,h3⟩
  .left;refine ⟨h1,fun j hj=>?_⟩;by_cases e:j=n+1
   .subst e;simpa using h
   exact h2 j (by omega)
  right;refine ⟨h1,by omega,fun j hj hjn=>?_⟩;by_cases e:j=n+1
  .subst e;simpa using h
  exact h3 j hj (by omega)
theorem qEb(t:Str)(f:Nat):∀n i,(kgb t f n i=0/\∀j,i<=j->j < i+n->br t f j=false)∨(br t f (kgb t f n i)=true/\i<=kgb t f n i/\∀j,i<=j->j < kgb t f n i->br t f j=false):=by
 intro n;induction n with
 | zero=>intro i;left;exact ⟨rfl,fun j h1 h2=>by omega⟩
 | succ n ih=>
  intro i;unfold kgb;by_cases h:br t f i=true
  .rw[if_pos h];right;exact ⟨h,jBc _,fun j h1 h2=>by omega⟩
  rw[if_neg h];have hb:br t f i=false:=by simpa using h
  rcases ih (i+1) with ⟨h1,h2⟩ | ⟨h1,h2,h3⟩
  .left;refine ⟨h1,fun j hj hjn=>?_⟩;by_cases e:j=i
   .subst e;exact hb
   exact h2 j (by omega) (by omega)
  right;refine ⟨h1,by omega,fun j hj hjn=>?_⟩;by_cases e:j=i
  .subst e;exact hb
  exact h3 j (by omega) hjn
theorem v9b(t:Str)(f:Nat):khb t f (cutP t f):=by
 unfold cutP;rcases qDb t f 78 with ⟨h1,h2⟩ | ⟨h1,h2,h3⟩
 .rw[if_pos h1];rcases qEb t f (t.length - 79) 79 with ⟨k1,k2⟩ | ⟨k1,k2,k3⟩
  .left;refine ⟨k1,fun j=>?_⟩;by_cases hj:j<=78
   .exact h2 j hj
   cases hb:br t f j with
   | false=>rfl
   | true=>have:=(kib hb).1;rw[k2 j (by omega) (by omega)]at hb;cases hb
  right;refine ⟨k1,.inr ⟨by omega,fun j hj=>?_⟩⟩;by_cases hj2:j<=78
  .exact h2 j hj2
  exact k3 j (by omega) hj
 have hne:Jaa t f 78≠0:=by intro h;rw[h,v8b]at h1;cases h1
 rw[if_neg hne];exact .inr ⟨h1,.inl ⟨h2,h3⟩⟩
theorem KNa{t:Str}{f:Nat}(h:cutP t f≠0):1<=cutP t f/\cutP t f < t.length:=by
 rcases v9b t f with ⟨h1,_⟩ | ⟨h1,_⟩
 .exact absurd h1 h
 exact ⟨(kib h1).2.1,(kib h1).1⟩
theorem br_at{t:Str}{f i:Nat}(h1:1<=i)(hi:i < t.length):br t f i=(decide (f<=i) && (jRa t[i] && !jRa (t[i - 1]'(by omega)))):=by
 unfold br;rw[jAi hi,jAi (show i - 1 < t.length by omega)];simp[h1]
def PInv(t:Str)(f b i:Nat):Prop:=f<=i/\1<=i/\((b=0/\∀j,j < i->br t f j=false)∨(br t f b=true/\b < i/\((b<=78/\∀j,b < j->j < i->br t f j=false)∨(78 < b/\∀j,j < b->br t f j=false))))
theorem PInv.done{t:Str}{f b i:Nat}(h:PInv t f b i)(hi:0 < b/\78 < i∨t.length<=i):khb t f b:=by
 obtain ⟨hf,h1,h2⟩:=h;rcases h2 with ⟨rfl,h3⟩ | ⟨h3,h4,h5⟩
 .left;refine ⟨rfl,fun j=>?_⟩;cases hb:br t f j with
  | false=>rfl
  | true=>
   have:=(kib hb).1;rw[h3 j (by omega)]at hb;cases hb
 right;refine ⟨h3,?_⟩;rcases h5 with ⟨h6,h7⟩ | h6
 .left;refine ⟨h6,fun j hj hj2=>?_⟩;cases hb:br t f j with
  | false=>rfl
  | true=>
   have:=(kib hb).1;rw[h7 j hj (by omega)]at hb;cases hb
 exact .inr h6
theorem Jba(t:Str)(f:Nat)(ht:t.length<=4194304)(hf:f<=4194304):y5a t (f:Int)=some ((cutP t (max f 1):Nat):Int):=by
 unfold y5a;have hstart:max (f:Int) 1=((max f 1:Nat):Int):=by omega
 rw[hstart];obtain ⟨r,h1,b,rfl,h2⟩:=Y3a (body:=w8a t) (fun s=>∃b i:Nat,s=((b:Int),(i:Int))/\PInv t (max f 1) b i/\i<=4194305) (fun s=>(4194306 - s.2).toNat) (fun _ r=>∃c:Nat,r=(c:Int)/\khb t (max f 1) c) (by
  rintro _ ⟨b,i,rfl,hI,hil⟩;have hi1:=hI.2.1;unfold w8a;dsimp only;by_cases hlt:i < t.length
  .have hd:decide ((i:Int) < (t.length:Int))=true:=by simp;omega
   have hpre:w64 ((i:Int) - 1)=((i - 1:Nat):Int):=by rw[vga (by omega) (by omega)];omega
   rw[hd,vVb hlt,hpre,vVb (show i - 1 < t.length by omega)];have hb:=br_at (f:=max f 1) hi1 hlt;have hfi:decide (max f 1<=i)=true:=by simp only[decide_eq_true_eq];exact hI.1
   rw[hfi,jDp]at hb;simp only[cond_true,jAb,Z0a];have next:∀b' :Nat,PInv t (max f 1) b' (i+1)->qVa ((b:Int),(i:Int)) (b' :Int)=some (.cont ((b' :Int),((i+1:Nat):Int))):=by
    intro b' _;unfold qVa;dsimp only;rw[sc i (by omega)]
   have hno:br t (max f 1) i=false->PInv t (max f 1) b (i+1):=by
    intro hnb;refine ⟨by have:=hI.1;omega,by omega,?_⟩;rcases hI.2.2 with ⟨q1,q2⟩ | ⟨q1,q2,q3⟩
    .left;refine ⟨q1,fun j hj=>?_⟩;by_cases e:j=i
     .subst e;exact hnb
     exact q2 j (by omega)
    right;refine ⟨q1,by omega,?_⟩;rcases q3 with ⟨q4,q5⟩ | q4
    .left;refine ⟨q4,fun j hj hj2=>?_⟩;by_cases e:j=i
     .subst e;exact hnb
     exact q5 j hj (by omega)
    exact .inr q4
   have goNo:br t (max f 1) i=false->(∃s',qVa ((b:Int),(i:Int)) (b:Int)=some (.cont s')/\(∃b i:Nat,s' =((b:Int),(i:Int))/\PInv t (max f 1) b i/\i<=4194305)/\(4194306 - s'.2).toNat < (4194306 - ((i:Int))).toNat/\∀r:Int,(∃c:Nat,r=(c:Int)/\khb t (max f 1) c)->∃c:Nat,r=(c:Int)/\khb t (max f 1) c):=by
    intro hnb;exact ⟨_,next b (hno hnb),⟨b,i+1,rfl,hno hnb,by omega⟩,by dsimp only;omega,fun _ h=>h⟩
   cases ha:jRa t[i] with
   | false=>
    rw[ha]at hb;simp only[jDt,cond_true,jAb];exact .inr (goNo hb)
   | true=>
    rw[ha]at hb;simp only[jBh,cond_false,jAb];cases hp:jRa t[i - 1] with
    | true=>
     rw[hp]at hb;simp only[cond_true];exact .inr (goNo hb)
    | false=>
     rw[hp]at hb;have hb:br t (max f 1) i=true:=hb;simp only[cond_false];by_cases hb0:0 < b/\78 < i
     .left;have e1:decide ((0:Int) < (b:Int))=true:=by simp;omega
      have e2:decide ((78:Int) < (i:Int))=true:=by simp;omega
      rw[e1,e2];exact ⟨(b:Int),rfl,b,rfl,hI.done (.inl hb0)⟩
     right;have e:(bif decide ((0:Int) < (b:Int)) then some (decide ((78:Int) < (i:Int))) else some false)=some false:=by
      by_cases h0:0 < b
      .have e1:decide ((0:Int) < (b:Int))=true:=by simp;omega
       have e2:decide ((78:Int) < (i:Int))=false:=by simp;omega
       rw[e1,e2];rfl
      have e1:decide ((0:Int) < (b:Int))=false:=by simp;omega
      rw[e1];rfl
     rw[e];simp only[jAb,cond_false];have hnew:PInv t (max f 1) i (i+1):=by
      refine ⟨by have:=hI.1;omega,by omega,.inr ⟨hb,by omega,?_⟩⟩;by_cases h78:i<=78
      .exact .inl ⟨h78,fun j h1 h2=>by omega⟩
      right;refine ⟨by omega,?_⟩;rcases hI.2.2 with ⟨q1,q2⟩ | ⟨q1,q2,q3⟩
      .exact q2
      exfalso;have:=(kib q1).2.1;omega
     exact ⟨_,next i hnew,⟨i,i+1,rfl,hnew,by omega⟩,by dsimp only;omega,fun _ h=>h⟩
  left;have hd:decide ((i:Int) < (t.length:Int))=false:=by simp;omega
  rw[hd];exact ⟨(b:Int),rfl,b,rfl,hI.done (.inr (by omega))⟩) ((0:Int),((max f 1:Nat):Int)) ⟨0,max f 1,rfl,⟨jBc _,by omega,.inl ⟨rfl,fun j hj=>by
  cases hb:br t (max f 1) j with
  | false=>rfl
  | true=>have:=(kib hb).2.2;omega⟩⟩,by omega⟩
 rw[h1];simp only[jAb];rw[zlb h2 (v9b t (max f 1))]
def KOa:Nat->Str->Nat->List Str
 | 0,t,_=>[t]
 | n+1,t,f=>if 78 < t.length then (if cutP t f=0 then [t] else t.take (cutP t f)::KOa n (t.drop (cutP t f)) 1) else [t]
theorem Jca:∀(n m:Nat) (t:Str) (f:Nat),t.length<=n->t.length<=m->KOa n t f=KOa m t f:=by
 intro n;induction n with
 | zero=>
  intro m t f h1 h2;cases m with
  | zero=>rfl
  | succ m=>unfold KOa;rw[if_neg (by omega)]
 | succ n ih=>
  intro m t f h1 h2;cases m with
  | zero=>unfold KOa;rw[if_neg (by omega)]
  | succ m=>
   unfold KOa;split
   .split
    .rfl
    rename_i hc;have:=KNa hc;rw[ih m _ 1 (by simp;omega) (by simp;omega)]
   rfl
def yVa(t:Str)(f:Nat):List Str:=KOa t.length t f
theorem QSa{t:Str}{f:Nat}(h:78 < t.length)(hc:cutP t f≠0):yVa t f=t.take (cutP t f)::yVa (t.drop (cutP t f)) 1:=by
 unfold yVa;obtain ⟨n,hn⟩:∃n,t.length=n+1:=⟨t.length - 1,by omega⟩;have hp:=KNa hc;rw[hn,KOa,if_pos h,if_neg hc];rw[Jca n (t.drop (cutP t f)).length _ 1 (by simp;omega) (jBc _)]
theorem wCa{t:Str}{f:Nat}(h:¬78 < t.length∨cutP t f=0):yVa t f=[t]:=by
 unfold yVa;cases hn:t.length with
 | zero=>rfl
 | succ n=>
  rw[KOa];rcases h with h | h
  .rw[if_neg h]
  split
  .rfl
  rfl
theorem zmb:∀(n:Nat) (t:Str) (f:Nat),t.length<=n->(yVa t f).flatten=t/\(yVa t f).length<=t.length+1:=by
 intro n;induction n with
 | zero=>intro t f h;rw[wCa (.inl (by omega))];simp
 | succ n ih=>
  intro t f h;by_cases h78:78 < t.length
  .by_cases hc:cutP t f=0
   .rw[wCa (.inr hc)];simp
   have hp:=KNa hc;rw[QSa h78 hc];obtain ⟨h1,h2⟩:=ih (t.drop (cutP t f)) 1 (by simp;omega);rw[List.flatten_cons,h1];refine ⟨by simp,?_⟩;simp only[jCl,jCg]at h2 ⊢;omega
  rw[wCa (.inl h78)];simp
theorem qFb{body:Str × Int × List Str->Option (Step (Str × Int × List Str) (Str × List Str))}(enc:Nat->Int)(g:Nat)
 (h:∀(t:Str) (f:Nat) (out:List Str),t.length<=4194304->out.length<=4194305->f<=4194304->body (t,enc f,out)=some (if 78 < t.length then (if cutP t (max f 1)=0 then .out (t,out) else .cont (t.drop (cutP t (max f 1)),enc g,out++ [t.take (cutP t (max f 1))])) else .out (t,out))) (h0:max g 1=1):
 ∀(n:Nat) (t:Str) (f:Nat) (out:List Str),t.length<=n->t.length<=4194304->out.length+t.length<=4194305->f<=4194304->∃last init,iter body (t,enc f,out)=some (last,init)/\init++ [last]=out++yVa t (max f 1):=by
 intro n;induction n with
 | zero=>
  intro t f out h1 h2 h3 h4;have hb:=h t f out h2 (by omega) h4;rw[if_neg (by omega)]at hb;exact ⟨t,out,zUa hb,by rw[wCa (.inl (by omega))]⟩
 | succ n ih=>
  intro t f out h1 h2 h3 h4;have hb:=h t f out h2 (by omega) h4;by_cases h78:78 < t.length
  .rw[if_pos h78]at hb;by_cases hc:cutP t (max f 1)=0
   .rw[if_pos hc]at hb;exact ⟨t,out,zUa hb,by rw[wCa (.inr hc)]⟩
   rw[if_neg hc]at hb;have hp:=KNa hc;obtain ⟨last,init,q1,q2⟩:=ih (t.drop (cutP t (max f 1))) g (out++ [t.take (cutP t (max f 1))]) (by simp;omega) (by simp;omega) (by simp;omega) (by omega);refine ⟨last,init,(z3a hb).trans q1,?_⟩;rw[q2,h0,QSa h78 hc];simp
  rw[if_neg h78]at hb;exact ⟨t,out,zUa hb,by rw[wCa (.inl h78)]⟩
def txt(n v:Str):Str:=n++ [58,32]++v
def flP(n v:Str):List Str:=yVa (txt n v) (n.length+2)
theorem wab(t:Str)(f:Nat)(ht:t.length<=4194304)(hf:f<=4194304):∃last init,iter wPa (t,(f:Int),([]:List Str))=some (last,init)/\init++ [last]=yVa t (max f 1):=by
 have:=qFb (body:=wPa) (fun n=>(n:Int)) 0 (fun t f out h1 h2 h3=>by
  unfold wPa;dsimp only;by_cases h78:78 < t.length
  .have hd:decide ((78:Int) < (t.length:Int))=true:=by rw[decide_eq_true_eq];omega
   rw[hd,if_pos h78,Jba t f h1 h3];simp only[cond_true,jAb];by_cases hc:cutP t (max f 1)=0
   .rw[if_pos hc,hc];rfl
   have hp:=KNa hc;have e:(((cutP t (max f 1):Nat):Int)==0)=false:=by rw[beq_eq_false_iff_ne];omega
   rw[if_neg hc,e,QOa (by omega),V0a (by omega)];simp only[cond_false,jAb];rw[vxa (by simp;omega)];rfl
  have hd:decide ((78:Int) < (t.length:Int))=false:=by rw[decide_eq_false_iff_not];omega
  rw[hd,if_neg h78];rfl) (by decide) t.length t f [] (jBc _) ht (by simp;omega) hf
 simpa using this
theorem txt_cat(n v:Str)(hn:n.length<=1048576)(hv:v.length<=1048576):cat n [58,32]=some (n++ [58,32])/\cat (n++ [58,32]) v=some (txt n v)/\w64 ((n.length:Int)+2)=((n.length+2:Nat):Int):=by
 refine ⟨cat_ok (by simp;omega),cat_ok (by simp;omega),?_⟩;rw[vga (by omega) (by omega)];omega
theorem wbb(n v:Str):(txt n v).length=n.length+2+v.length:=by unfold txt;simp;omega
def V2a(i:Nat)(l:Str):Option Int:=if 998 < l.length then some (i:Int) else none
def kjb(n v:Str):List Str × zsa:=
 if !fnP n then ([],⟨10, -1⟩) else if 4000 < v.length then ([],⟨1, -1⟩) else if !valP v then ([],⟨11, -1⟩) else match kCa V2a 0 (flP n v) with | some i=>([],⟨1,i⟩) | none=>(flP n v,⟨0,0⟩)
theorem fl_len(n v:Str):(flP n v).length<=n.length+v.length+3:=by
 have:=(zmb (txt n v).length (txt n v) (n.length+2) (jBc _)).2;have hl:=wbb n v;unfold flP;omega
theorem dec998(l:Str):decide ((998:Int) < (l.length:Int))=decide (998 < l.length):=by generalize l.length=n;rw[jAz];simp;omega
theorem QTa(n v:Str)(hn:n.length<=1048576)(hv:v.length<=1048576):y6a n v=some (kjb n v):=by
 obtain ⟨h1,h2,h3⟩:=txt_cat n v hn hv;have hl:=wbb n v;obtain ⟨last,init,q1,q2⟩:=wab (txt n v) (n.length+2) (by omega) (by omega);rw[show max (n.length+2) 1=n.length+2 by omega]at q2;unfold y6a kjb;rw[zjb n hn,Y9a v hv];simp only[jAb,zNa,kEa];cases fnP n with
 | false=>rfl
 | true=>
  simp only[jBh,cond_false,jAj,if_false];by_cases h4:4000 < v.length
  .have hd:decide ((4000:Int) < (v.length:Int))=true:=by rw[decide_eq_true_eq];omega
   rw[hd,if_pos h4];rfl
  have hd:decide ((4000:Int) < (v.length:Int))=false:=by rw[decide_eq_false_iff_not];omega
  rw[hd,if_neg h4];simp only[cond_false];cases valP v with
  | false=>rfl
  | true=>
   simp only[jBh,cond_false,jAj,if_false];rw[h1];simp only[jAb];rw[h2];simp only[jAb];rw[h3,q1];simp only[jAb];have hj:=fl_len n v;have hfl:flP n v=init++ [last]:=q2.symm;have hj2:=hj;rw[hfl]at hj2;simp at hj2;rw[vxa (by simp;omega),<-hfl];simp only[jAb];rw[kKa (flP n v) (fun i l=>(V2a i l).map fun k=>(([]:List Str),(⟨1,k⟩:zsa))) (.inl ()) .inr]
   .simp only[jAb];have hm:∀(l:List Str) (i:Nat),kCa (fun i l=>(V2a i l).map fun k=>(([]:List Str),(⟨1,k⟩:zsa))) i l=(kCa V2a i l).map fun k=>(([]:List Str),(⟨1,k⟩:zsa)):=by
     intro l;induction l with
     | nil=>intro i;rfl
     | cons x l ih=>intro i;unfold kCa;rw[ih];cases V2a i x <;> rfl
    rw[hm];cases kCa V2a 0 (flP n v) <;> rfl
   .unfold yMa;rw[z5a];rfl
   intro i l hli;have hi:=z4a hli;unfold yMa V2a;rw[kta hli,zFa hli];simp only[cond_true,jAb,dec998,zNa,sc i (by omega)];by_cases h9:998 < l.length
   .simp[h9]
   simp[h9]
def Q2a(f:zka):Int:=(kjb f.Name f.Value).2.Code
def qGb(l:List Str):Bool:=l.any fun s=>decide (998 < s.length)
theorem Yja(l:List Str):∀n,(kCa V2a n l).isSome=qGb l:=by
 induction l with
 | nil=>intro n;rfl
 | cons x l ih=>
  intro n;unfold kCa qGb V2a;by_cases h:998 < x.length
  .simp[h]
  simp only[h,if_false,List.any_cons,decide_false,jDq];exact ih (n+1)
def codeQ(n v:Str):Int:=if !fnP n then 10 else if 4000 < v.length then 1 else if !valP v then 11 else if qGb (flP n v) then 1 else 0
theorem codeP_eq(f:zka):Q2a f=codeQ f.Name f.Value:=by
 unfold Q2a kjb codeQ;rw[<-Yja (flP f.Name f.Value) 0];split
 .rfl
 split
 .rfl
 split
 .rfl
 cases kCa V2a 0 (flP f.Name f.Value) <;> rfl
def smallF(l:List zka):Prop:=l.length<=1048576/\∀f∈l,f.Name.length<=1048576/\f.Value.length<=1048576
def V3a(i:Nat)(f:zka):Option zsa:=if Q2a f !=0 then some ⟨Q2a f,i⟩ else none
def kkb(l:List zka):zsa:=if 60 < l.length then ⟨2, -1⟩ else (kCa V3a 0 l).getD ⟨0,0⟩
theorem dec60f(l:List zka):decide ((60:Int) < (l.length:Int))=decide (60 < l.length):=by generalize l.length=n;rw[jAz];simp;omega
theorem KPa(l:List zka)(h:smallF l):vsa l=some (kkb l):=by
 obtain ⟨h1,h2⟩:=h;unfold vsa kkb;rw[kKa l V3a (.inl ()) .inr]
 .simp only[jAb,zNa,kEa,Yga,dec60f];by_cases h6:60 < l.length <;> simp[h6]
 .unfold vha;rw[z5a];rfl
 intro i f hf;have hi:=z4a hf;obtain ⟨hn,hv⟩:=h2 f (jAe hf);unfold vha V3a;rw[kta hf,zFa hf];simp only[cond_true,jAb,QTa _ _ hn hv,z6a,zNa,sc i (by omega)];show (bif Q2a f !=0 then _ else _)=_;cases Q2a f !=0 <;> rfl
theorem qHb(l:List zka)(h:(kkb l).Code=0):¬60 < l.length/\kCa V3a 0 l=none/\∀f∈l,Q2a f=0:=by
 unfold kkb at h;by_cases h6:60 < l.length
 .rw[if_pos h6]at h;simp at h
 rw[if_neg h6]at h;cases hq:kCa V3a 0 l with
 | some y=>
  rw[hq]at h;obtain ⟨i,f,h1,h2⟩:=Kea hq;unfold V3a at h2;exfalso;by_cases hc:Q2a f=0
  .simp[hc]at h2
  have:(Q2a f !=0)=true:=by simpa using hc
  rw[this]at h2;simp at h2;subst h2;exact hc h
 | none=>
  refine ⟨h6,rfl,fun f hf=>?_⟩;obtain ⟨i,hi⟩:=List.getElem?_of_mem hf;have:=q3a.1 hq i f hi;unfold V3a at this;simpa using this
theorem codeP_ok{f:zka}(h:Q2a f=0):f.Name.length<=60/\f.Value.length<=4000/\kjb f.Name f.Value=(flP f.Name f.Value,⟨0,0⟩)/\∀l∈flP f.Name f.Value,l.length<=998:=by
 have h0:=h;rw[codeP_eq]at h;unfold codeQ at h;have h1:fnP f.Name=true:=by cases hx:fnP f.Name with
  | true=>rfl
  | false=>rw[hx]at h;simp at h
 rw[h1]at h;simp only[jBh,jAj,if_false]at h;have h2:¬4000 < f.Value.length:=by intro hx;rw[if_pos hx]at h;simp at h
 rw[if_neg h2]at h;have h3:valP f.Value=true:=by cases hx:valP f.Value with
  | true=>rfl
  | false=>rw[hx]at h;simp at h
 rw[h3]at h;simp only[jBh,jAj,if_false]at h;have h4:qGb (flP f.Name f.Value)=false:=by cases hx:qGb (flP f.Name f.Value) with
  | false=>rfl
  | true=>rw[hx]at h;simp at h
 refine ⟨?_,by omega,?_,?_⟩
 .unfold fnP at h1;simp only[jAs,decide_eq_true_eq]at h1;exact h1.1.2
 .unfold kjb;rw[h1,h3];simp only[jBh,jAj,if_false,if_neg h2];have:=Yja (flP f.Name f.Value) 0;rw[h4]at this;cases hx:kCa V2a 0 (flP f.Name f.Value) with
  | none=>rfl
  | some y=>rw[hx]at this;cases this
 intro l hl;unfold qGb at h4;rw[jCr]at h4;have:=h4 l hl;simp at this;omega
def addL(a:List UInt8)(l:Str):List UInt8:=a++l++ [13,10]
def addF(a:List UInt8)(f:zka):List UInt8:=(flP f.Name f.Value).foldl addL a
def V4a(m:zIa):List UInt8:=m.Fields.foldl addF []++ [13,10]++m.Body
theorem lines_wr(l:List Str)(acc:List UInt8)(hl:l.length<=5000)(h9:∀s∈l,s.length<=998)(ha:acc.length<=1000000000){body:Int × List UInt8->Option (Step (Int × List UInt8) (List UInt8))}
 (h0:∀s,body ((l.length:Int),s)=some (.out s)) (h1:∀(i:Nat) x s,l[i]? =some x->s.length<=1006000000->body ((i:Int),s)=some (.cont (((i+1:Nat):Int),addL s x))):iter body (0,acc)=some (l.foldl addL acc)/\(l.foldl addL acc).length<=acc.length+1000 * l.length:=
 Zia l (fun i s=>(i,s)) addL id (fun i s=>s.length<=acc.length+1000 * i) (body:=body) (fun s _=>h0 s) (fun i x s hx hi=>by
  have hlt:=z4a hx;have h9x:=h9 x (jAe hx);refine ⟨h1 i x s hx (by omega),?_⟩;unfold addL;simp;omega) acc (by simp)
theorem wcb(l:List zka)(hl:l.length<=60)(hc:∀f∈l,Q2a f=0){body:Int × List UInt8->Option (Step (Int × List UInt8) (List UInt8))}
 (h0:∀s,body ((l.length:Int),s)=some (.out s)) (h1:∀(i:Nat) f s,l[i]? =some f->s.length<=1000000000->body ((i:Int),s)=some (.cont (((i+1:Nat):Int),addF s f))/\(addF s f).length<=s.length+5000000):iter body (0,([]:List UInt8))=some (l.foldl addF [])/\(l.foldl addF []).length<=5000000 * l.length:=
 Zia l (fun i s=>(i,s)) addF id (fun i s=>s.length<=5000000 * i) (body:=body) (fun s _=>h0 s) (fun i f s hf hi=>by
  have hlt:=z4a hf;obtain ⟨q1,q2⟩:=h1 i f s hf (by omega);exact ⟨q1,by omega⟩) [] (by simp)
theorem Q3a(m:zIa)(hb:m.Body.length<=1048576)(h60:m.Fields.length<=60)(hc:∀f∈m.Fields,Q2a f=0):wda m=some (V4a m):=by
 unfold wda V4a;obtain ⟨h1,h2⟩:=wcb m.Fields h60 hc (body:=q8a m) (fun s=>by unfold q8a;rw[z5a];rfl) (fun i f s hf hs=>by
  have hi:=z4a hf;obtain ⟨c1,c2,c3,c4⟩:=codeP_ok (hc f (jAe hf));have hfl:=fl_len f.Name f.Value;obtain ⟨q1,q2⟩:=lines_wr (flP f.Name f.Value) s (by omega) c4 hs (body:=q7a (kjb f.Name f.Value)) (fun s=>by unfold q7a;rw[c3,z5a];rfl) (fun k x s hx hs=>by
   have hk:=z4a hx;have:=c4 x (jAe hx);unfold q7a;rw[c3,kta hx,zFa hx];simp only[cond_true,jAb,sc k (by omega)];rw[vxa (by omega)];simp only[jAb];rw[vxa (by simp;omega)];rfl)
  unfold addF;refine ⟨?_,by omega⟩;unfold q8a;rw[kta hf,zFa hf];simp only[cond_true,jAb,QTa f.Name f.Value (by omega) (by omega),q1,sc i (by omega)])
 rw[h1];simp only[jAb];rw[vxa (by simp;omega)];simp only[jAb];rw[vxa (by simp;omega)];rfl
def Jda:Nat->List UInt8->Option Bool
 | _,[]=>none
 | c,[x]=>if x==13 || x==10 then some true else if 998 < c+1 then some false else none
 | c,x::y::r=>if x==13 && y==10 then Jda 0 r else if x==13 || x==10 then some true else if 998 < c+1 then some false else Jda (c+1) (y::r)
def Vka{O:Type}(e:Bool->O)(c i:Nat)(x:UInt8)(r:List UInt8):Step (Int × Int) (Unit ⊕ O):=
 if x==13 && r.head? ==some 10 then .cont (0,((i+2:Nat):Int)) else if x==13 || x==10 then .out (.inr (e true)) else if 998 < c+1 then .out (.inr (e false)) else .cont (((c+1:Nat):Int),((i+1:Nat):Int))
theorem wdb{O:Type}(e:Bool->O)(l:List UInt8){body:Int × Int->Option (Step (Int × Int) (Unit ⊕ O))}
 (h0:∀c,body (c,(l.length:Int))=some (.out (.inl ())))
 (hs:∀(c:Nat) (p:List UInt8) x r,l=p++x::r->c<=998->body ((c:Int),(p.length:Int))=some (Vka e c p.length x r)):
 ∀(n:Nat) (r p:List UInt8) (c:Nat),r.length<=n->l=p++r->c<=998->iter body ((c:Int),(p.length:Int))=some ((Jda c r).elim (.inl ()) fun b=>.inr (e b)):=by
 intro n;induction n with
 | zero=>
  intro r p c hr hl hc;obtain rfl:r=[]:=List.length_eq_zero_iff.1 (by omega);have:p=l:=by simp[hl]
  subst this;exact zUa (h0 _)
 | succ n ih=>
  intro r p c hr hl hc
  match r,hr,hl with
  | [],_,hl=>
   have:p=l:=by simp[hl]
   subst this;exact zUa (h0 _)
  | [x],hr,hl=>
   have hb:=hs c p x [] hl hc;unfold Vka at hb;have e1:(x==13 && ([]:List UInt8).head? ==some 10)=false:=by simp
   rw[e1]at hb;simp only[jAj,if_false]at hb;unfold Jda;cases hx:(x==13 || x==10) with
   | true=>rw[hx]at hb;exact zUa hb
   | false=>
    rw[hx]at hb;simp only[jAj,if_false]at hb ⊢;by_cases h9:998 < c+1
    .rw[if_pos h9]at hb ⊢;exact zUa hb
    rw[if_neg h9]at hb ⊢;rw[z3a hb];have:=ih [] (p++ [x]) (c+1) (by simp) (by simp[hl]) (by omega);rw[jAg]at this;exact this
  | x::y::r,hr,hl=>
   have hb:=hs c p x (y::r) hl hc;unfold Vka at hb;have e1:((y::r).head? ==some (10:UInt8))=(y==10):=by simp
   rw[e1]at hb;unfold Jda;cases hxy:(x==13 && y==10) with
   | true=>
    rw[hxy]at hb;simp only[if_true]at hb ⊢;rw[z3a hb];have:=ih r (p++ [x,y]) 0 (by simp at hr;omega) (by simp[hl]) (by omega);rw[jAg]at this;exact this
   | false=>
    rw[hxy]at hb;simp only[jAj,if_false]at hb ⊢;cases hx:(x==13 || x==10) with
    | true=>rw[hx]at hb;exact zUa hb
    | false=>
     rw[hx]at hb;simp only[jAj,if_false]at hb ⊢;by_cases h9:998 < c+1
     .rw[if_pos h9]at hb ⊢;exact zUa hb
     rw[if_neg h9]at hb ⊢;rw[z3a hb];have:=ih (y::r) (p++ [x]) (c+1) (by simp at hr ⊢;omega) (by simp[hl]) (by omega);rw[jAg]at this;exact this
theorem next_is{l p r:List UInt8}{x:UInt8}(h:l=p++x::r)(hl:l.length<=1048576):(bif decide (((p.length+1:Nat):Int) < (l.length:Int)) then (idx l ((p.length+1:Nat):Int)).bind fun v13=>some (((v13.toNat:Int)==10)) else some false)=some (r.head? ==some 10):=by
 subst h;simp at hl;cases r with
 | nil=>
  have:decide (((p.length+1:Nat):Int) < ((p++ [x]).length:Int))=false:=by simp
  rw[this];rfl
 | cons y r=>
  have:decide (((p.length+1:Nat):Int) < ((p++x::y::r).length:Int))=true:=by simp;omega
  rw[this,Qua];have:(p++x::y::r)[p.length+1]? =some y:=by simp[jAh]
  rw[this];simp only[cond_true,jAb,VZa y 10 (by decide)];simp
theorem Jea(l:List UInt8)(hl:l.length<=1048576):y7a l=some ((Jda 0 l).elim 0 fun b=>bif b then 11 else 1):=by
 unfold y7a;have:=wdb (fun b:Bool=>bif b then (11:Int) else 1) l (body:=vFa l) (fun c=>by unfold vFa;rw[z5a];rfl) (fun c p x r h hc=>by
  have hx:l[p.length]? =some x:=by simp[h]
  have hi:=z4a hx;unfold vFa wea Vka;dsimp only;rw[kta hx,zFa hx];simp only[cond_true,jAb,VZa x 13 (by decide),VZa x 10 (by decide),sc p.length (by omega),sc (p.length+1) (by omega),sc c (by omega)];rw[next_is h hl];have h9:decide ((998:Int) < ((c+1:Nat):Int))=decide (998 < c+1):=by rw[jAz];simp;omega
  rw[h9];by_cases h98:998 < c+1 <;> simp only[h98,decide_true,decide_false,if_true,if_false] <;> cases x==13 <;> cases x==10 <;> cases r.head? ==some 10 <;> rfl) l.length l [] 0 (jBc _) rfl (by omega)
 have h2:iter (vFa l) (0,0)=_:=this;rw[h2];cases Jda 0 l with
 | none=>rfl
 | some b=>cases b <;> rfl
def bodyF(l:List UInt8):zsa:=(Jda 0 l).elim ⟨0,0⟩ fun b=>bif b then ⟨11, -5⟩ else ⟨1, -6⟩
theorem V5a(l:List UInt8)(hl:l.length<=1048576):wQa l=some (bodyF l):=by
 unfold wQa bodyF;rw[Jea l hl];cases Jda 0 l with
 | none=>rfl
 | some b=>cases b <;> rfl
def msgF(m:zIa):zsa:=if (kkb m.Fields).Code !=0 then kkb m.Fields else if 12000 < (V4a m).length then ⟨1, -4⟩ else bodyF m.Body
def kQb(m:zIa):Prop:=smallF m.Fields/\m.Body.length<=1048576
theorem Kfa(m:zIa)(h:kQb m):q9a m=some (msgF m):=by
 obtain ⟨h1,h2⟩:=h;unfold q9a msgF;rw[KPa _ h1];simp only[jAb,z6a,zNa,V5a _ h2];cases hc:(kkb m.Fields).Code !=0 with
 | true=>rfl
 | false=>
  obtain ⟨q1,q2,q3⟩:=qHb m.Fields (by simpa using hc);rw[Q3a m h2 (by omega) q3];simp only[jAb,cond_false,jAj,if_false];have:decide ((12000:Int) < ((V4a m).length:Int))=decide (12000 < (V4a m).length):=by generalize (V4a m).length=n;rw[jAz];simp;omega
  rw[this];by_cases hb:12000 < (V4a m).length <;> simp[hb]
instance:DecidableEq zba:=fun a b=>decidable_of_iff (a.Address=b.Address/\a.Notify=b.Notify) (by cases a;cases b;simp)
instance:DecidableEq zsa:=fun a b=>decidable_of_iff (a.Code=b.Code/\a.Index=b.Index) (by cases a;cases b;simp)
instance:DecidableEq zOa:=fun a b=>decidable_of_iff (a.From=b.From/\a.To=b.To/\a.Id=b.Id) (by cases a;cases b;simp)
theorem rec_eq(a b:zba):qta [(a.Address==b.Address),(a.Notify==b.Notify)]=(a==b):=by
 cases a;cases b;rw[jAz];simp[qta]
def klb(s:Str):Str:=if atP s < s.length then s.drop (atP s+1) else []
theorem qIb(s:Str):(Yda s).2.1=klb s:=by
 unfold Yda klb;by_cases h:atP s < s.length
 .rw[if_pos h,if_pos h]
 rw[if_neg h,if_neg h]
theorem web{α:Type}(l:List α)(i:Nat)(z:α)(h:i<=l.length):(clr0 l i z).take i=l.take i:=by
 unfold clr0;simp[List.take_append,h]
def V6a(s:Str)(r:zba):Bool:=r.Address==s
def kmb(out:List zba)(s:Str):Bool:=out.any (V6a s)
def putR(out:List zba)(r:zba):List zba:=if kmb out r.Address then out.map (fun x=>if V6a r.Address x then ⟨x.Address,iOr x.Notify r.Notify⟩ else x) else out++ [r]
def posA(out:List zba)(s:Str):Option Nat:=out.findIdx? (V6a s)
theorem posA_has(out:List zba)(s:Str):(posA out s).isSome=kmb out s:=by unfold posA kmb;exact List.findIdx?_isSome
theorem posA_app(out:List zba)(r:zba)(s:Str)(h:kmb out r.Address=false):posA (out++ [r]) s=if r.Address==s then some out.length else posA out s:=by
 unfold posA;rw[List.findIdx?_append];by_cases hs:(r.Address==s)=true
 .rw[if_pos hs];have e:r.Address=s:=beq_iff_eq.1 hs;subst e;have:out.findIdx? (V6a r.Address)=none:=by
   have:=posA_has out r.Address;rw[h]at this;unfold posA at this;simpa using this
  rw[this];simp[V6a]
 rw[if_neg hs];have:V6a s r=false:=by unfold V6a;simpa using hs
 simp[List.findIdx?_cons,this]
theorem posA_map(out:List zba)(f:zba->zba)(hf:∀x,(f x).Address=x.Address)(s:Str):posA (out.map f) s=posA out s:=by
 unfold posA;rw[List.findIdx?_map]
 congr 1
 funext x;simp[Function.comp,V6a,hf]
structure MInv (i:Nat) (out:List zba) (m:List (Str × Int)):Prop where
 len:out.length<=i
 nd:(out.map (·.Address)).Nodup
 mp:∀s,mget m s=(posA out s).map fun k=>((k:Nat):Int)
theorem MInv.put{i:Nat}{out:List zba}{m:List (Str × Int)}(h:MInv i out m)(r:zba):MInv (i+1) (putR out r) (if kmb out r.Address then m else mput m r.Address (out.length:Int)):=by
 unfold putR;cases hh:kmb out r.Address with
 | true=>
  simp only[if_true];have hf:∀x:zba,(if V6a r.Address x then (⟨x.Address,iOr x.Notify r.Notify⟩:zba) else x).Address=x.Address:=by intro x;split <;> rfl
  refine ⟨by simp;have:=h.len;omega,?_,fun s=>?_⟩
  .rw[List.map_map,show ((·.Address) ∘ fun x:zba=>if V6a r.Address x then (⟨x.Address,iOr x.Notify r.Notify⟩:zba) else x)=(·.Address) from funext hf];exact h.nd
  rw[posA_map _ _ hf];exact h.mp s
 | false=>
  simp only[jAj,if_false];refine ⟨by simp;exact h.len,?_,fun s=>?_⟩
  .rw[List.map_append,List.nodup_append];refine ⟨h.nd,by simp,?_⟩;intro a ha b hb;simp at hb;subst hb;rintro rfl;obtain ⟨x,hx,hxe⟩:=jBy.1 ha;unfold kmb at hh;rw[jCr]at hh;exact hh x hx (by simp[V6a,hxe])
  rw[qzb,posA_app _ _ _ hh,h.mp s];by_cases hs:(r.Address==s)=true
  .rw[if_pos hs,if_pos hs];rfl
  rw[if_neg hs,if_neg hs]
theorem wfb{m:zIa}(h:zIa.bk m<=1048576):kQb m:=by
 unfold zIa.bk at h;have h1:=Qxa (bk:=zka.bk) (fun x=>by unfold zka.bk;omega) m.Fields;have h2:=Qxa (bk:=fun _:UInt8=>1) (fun x=>by simp) m.Body;refine ⟨⟨by omega,fun f hf=>?_⟩,by omega⟩;have h5:=kab (bk:=zka.bk) hf;have h6:zka.bk f=f.Name.length+1+(f.Value.length+1)+1:=rfl;omega
def jLa(m:kha):zsa:=if (envF m.Envelope).Code !=0 then envF m.Envelope else if (msgF m.Message).Code !=0 then ⟨(msgF m.Message).Code, -30⟩ else ⟨0,0⟩
theorem wDa(m:kha)(h1:kPb m.Envelope)(h2:kQb m.Message):qCa m=some (jLa m):=by
 unfold qCa jLa;rw[ZIa _ h1,Kfa _ h2];simp only[jAb,z6a,zNa,kEa];cases (envF m.Envelope).Code !=0 <;> cases (msgF m.Message).Code !=0 <;> rfl
theorem wra(t:Int):qLa t=some (decide (-68719476736<=t) && decide (t<=68719476736)):=by
 unfold qLa;by_cases h:(-68719476736:Int)<=t <;> simp[h]
def add1(o:List Str)(x:Str):List Str:=if o.contains x then o else o++ [x]
def Yka(o xs:List Str):List Str:=xs.foldl add1 o
theorem add1_mem(o:List Str)(x y:Str):y∈add1 o x↔y∈o∨y=x:=by
 unfold add1;split
 .rename_i h;simp at h;constructor
  .exact .inl
  rintro (h1 | rfl)
  .exact h1
  exact h
 simp
theorem knb(o:List Str)(x:Str):o <+:add1 o x:=by
 unfold add1;split
 .exact List.prefix_refl _
 exact List.prefix_append _ _
theorem qJb{o:List Str}(h:o.Nodup)(x:Str):(add1 o x).Nodup:=by
 unfold add1;split
 .exact h
 rename_i hx;simp at hx;rw[List.nodup_append];exact ⟨h,by simp,fun a ha b hb hab=>by simp at hb;subst hb;subst hab;exact hx ha⟩
theorem qKb(xs:List Str):∀(o:List Str) (y:Str),y∈Yka o xs↔y∈o∨y∈xs:=by
 induction xs with
 | nil=>intro o y;simp[Yka]
 | cons x xs ih=>intro o y;show y∈Yka (add1 o x) xs↔_;rw[ih,add1_mem];simp[or_assoc]
theorem Jfa(xs:List Str):∀o:List Str,o <+:Yka o xs:=by
 induction xs with
 | nil=>intro o;exact List.prefix_refl _
 | cons x xs ih=>intro o;exact (knb o x).trans (ih _)
theorem znb(xs:List Str):∀{o:List Str},o.Nodup->(Yka o xs).Nodup:=by
 induction xs with
 | nil=>intro o h;exact h
 | cons x xs ih=>intro o h;exact ih (qJb h x)
theorem nodup_le{l m:List Str}(hl:l.Nodup)(h:∀x∈l,x∈m):l.length<=m.length:=by
 induction l generalizing m with
 | nil=>simp
 | cons x l ih=>
  have hx:x∈m:=h x (by simp);obtain ⟨hxl,hl'⟩:=jBq.1 hl;have:=ih (m:=m.erase x) hl' (fun y hy=>by
   have hne:y≠x:=by rintro rfl;exact hxl hy
   exact (List.mem_erase_of_ne hne).2 (h y (by simp[hy])))
  rw[List.length_erase_of_mem hx]at this;have:0 < m.length:=List.length_pos_of_mem hx;simp;omega
def tgtO(l:List yJa)(s:Str):Option (List Str):=(l.find? (fun a=>a.Address==s)).map (·.To)
def tgt(l:List yJa)(s:Str):List Str:=(tgtO l s).getD []
def univ(l:List yJa)(from_:List Str):List Str:=from_++l.flatMap (·.To)
theorem tgt_sub(l:List yJa)(s x:Str)(h:x∈tgt l s):∃a∈l,a.Address=s/\x∈a.To:=by
 unfold tgt tgtO at h;cases hf:l.find? (fun a=>a.Address==s) with
 | none=>rw[hf]at h;simp at h
 | some a=>
  rw[hf]at h;have:=List.find?_some hf;exact ⟨a,List.mem_of_find?_eq_some hf,by simpa using this,by simpa using h⟩
structure Inv (l:List yJa) (U:List Str) (k:Nat) (out:List Str):Prop where
 nd:out.Nodup
 sub:∀x∈out,x∈U
 le:k<=out.length
theorem Inv.len{l:List yJa}{U:List Str}{k:Nat}{out:List Str}(h:Inv l U k out):out.length<=U.length:=nodup_le h.nd h.sub
theorem Inv.step{l:List yJa}{from_:List Str}{k:Nat}{out:List Str}(h:Inv l (univ l from_) k out){s:Str}(hs:out[k]? =some s):Inv l (univ l from_) (k+1) (Yka out (tgt l s)):=by
 refine ⟨znb _ h.nd,fun x hx=>?_,?_⟩
 .rcases (qKb _ _ _).1 hx with h1 | h1
  .exact h.sub x h1
  obtain ⟨a,ha,_,hxa⟩:=tgt_sub l s x h1;exact jCk.2 (.inr (List.mem_flatMap.2 ⟨a,ha,hxa⟩))
 have:=(Jfa (tgt l s) out).length_le;have:=z4a hs;omega
theorem kRb{α β:Type}(f:α->β)(l:List α):∀o:List β,l.foldl (fun o x=>o++ [f x]) o=o++l.map f:=by
 induction l with
 | nil=>intro o;simp
 | cons x l ih=>intro o;simp[ih]
instance:DecidableEq zka:=fun a b=>decidable_of_iff (a.Name=b.Name/\a.Value=b.Value) (by cases a;cases b;simp)
instance:DecidableEq zIa:=fun a b=>decidable_of_iff (a.Fields=b.Fields/\a.Body=b.Body) (by cases a;cases b;simp)
instance:DecidableEq kha:=fun a b=>decidable_of_iff (a.Envelope=b.Envelope/\a.Message=b.Message) (by cases a;cases b;simp)
def vya(m:kha):Prop:=kPb m.Envelope/\kQb m.Message
theorem KQa{α:Type}{lim:Nat}(l:List α)(h:l.length<=lim):(nilE l.isEmpty (some ([]:List α)) ((app lim ([]:List α) l).bind fun v=>some v))=some l:=by
 rw[vxa (by simpa using h)];simp only[jCo,jAb];exact vlb _ _ _ (fun he=>by rw[List.isEmpty_iff.1 he])
theorem Zka(l:List zka)(h:l.length<=1048576):kna l=some l:=KQa l (by omega)
theorem jia(m:kha)(h:vya m):qea m=some m:=by
 obtain ⟨⟨_,_,h1,_⟩,⟨h2,_⟩,h3⟩:=h;unfold qea;rw[KQa m.Envelope.To (by omega)];simp only[jAb];rw[Zka _ h2,KQa m.Message.Body (by omega)];rfl
theorem Jga{α:Type}{L:List α}{i:Nat}{x:α}(h:L[i]? =some x):L.set i x=L:=by
 apply List.ext_getElem?;intro j;rw[jDs];split
 .rename_i hij;subst hij;split
  .exact h.symm
  rename_i hn;exact absurd (z4a h) hn
 rfl
theorem delAt_eq{α:Type}(L:List α)(k:Nat)(z:α)(hk:k < L.length)(hl:L.length<=1048576):((cut3 L (k:Int) ((w64 ((k:Int)+1))) ((L.length:Int))).bind fun v34=>(bif ((k:Int)==(w64 ((k:Int)+1))) then some L else (cut L 0 (k:Int)).bind fun v37=>(cut L ((w64 ((k:Int)+1))) (L.length:Int)).bind fun v39=>(shft L (k:Int) ((w64 ((k:Int)+1)))).bind fun v41=>(VDa v41 (((((Int.toNat (k:Int))+(L.length - (Int.toNat ((w64 ((k:Int)+1)))))):Nat):Int)) ((L.length:Int))).bind fun v43=>some ((List.take ((Int.toNat (k:Int))+(L.length - (Int.toNat ((w64 ((k:Int)+1)))))) ((clr0 v41 (Int.toNat (((((Int.toNat (k:Int))+(L.length - (Int.toNat ((w64 ((k:Int)+1)))))):Nat):Int))) z))))))=some (L.take k++L.drop (k+1)):=by
 rw[sc k (by omega)];have e1:cut3 L (k:Int) ((k+1:Nat):Int) (L.length:Int)=some ():=by unfold cut3;rw[if_pos ⟨by omega,by omega,by omega,by omega⟩]
 have e2:((k:Int)==((k+1:Nat):Int))=false:=by rw[beq_eq_false_iff_ne];omega
 rw[e1,e2,QOa (by omega),V0a (by omega)];simp only[jAb,cond_false,jBe];have e3:shft L (k:Int) ((k+1:Nat):Int)=some (L.take k++L.drop (k+1)++L.drop (k+(L.length - (k+1)))):=by
  unfold shft;rw[if_pos ⟨by omega,by omega,by omega⟩];simp only[jBe]
 rw[e3];simp only[jAb];have hlen:(L.take k++L.drop (k+1)++L.drop (k+(L.length - (k+1)))).length=L.length:=by simp;omega
 have e4:VDa (L.take k++L.drop (k+1)++L.drop (k+(L.length - (k+1)))) ((k+(L.length - (k+1)):Nat):Int) (L.length:Int)=some ():=by
  unfold VDa;rw[if_pos ⟨by omega,by omega,by rw[hlen]⟩]
 rw[e4];simp only[jAb];rw[web _ _ _ (by rw[hlen];omega)];have e5:(L.take k++L.drop (k+1)).length=k+(L.length - (k+1)):=by simp;omega
 rw[<-e5,List.take_left'];rfl
theorem KRa(m:zIa)(hf:m.Fields.length<=1048576):wfa m m=some true:=by
 unfold wfa;have e1:((m.Fields.length:Int) !=(m.Fields.length:Int))=false:=by simp
 have e2:(m.Body !=m.Body)=false:=by simp
 rw[e1,e2];simp only[cond_false,jAb];rw[kKa m.Fields (fun _ _=>none) (.inl ()) .inr]
 .have:kCa (fun _ _=>(none:Option Bool)) 0 m.Fields=none:=by rw[q3a];intro i x _;rfl
  simp only[jAb];rw[this];rfl
 .unfold vSa;rw[z5a];rfl
 intro i f hx;have hi:=z4a hx;unfold vSa;rw[kta hx,zFa hx];simp only[cond_true,jAb,sc i (by omega)];simp[qta]
theorem V7a(m:kha)(h1:m.Envelope.To.length<=1048576)(h2:m.Message.Fields.length<=1048576):y8a m m=some true:=by
 unfold y8a;have e1:(m.Envelope.From !=m.Envelope.From)=false:=by simp
 have e2:(m.Envelope.Id !=m.Envelope.Id)=false:=by simp
 have e3:((m.Envelope.To.length:Int) !=(m.Envelope.To.length:Int))=false:=by simp
 rw[e1,e2,e3];simp only[cond_false,jAb];rw[kKa m.Envelope.To (fun _ _=>none) (.inl ()) .inr]
 .have:kCa (fun _ _=>(none:Option Bool)) 0 m.Envelope.To=none:=by rw[q3a];intro i x _;rfl
  simp only[jAb];rw[this];simp only[Option.elim_none,Sum.elim_inl];rw[KRa _ h2];rfl
 .unfold w9a;rw[z5a];rfl
 intro i f hx;have hi:=z4a hx;unfold w9a;rw[kta hx,zFa hx];simp only[cond_true,jAb,sc i (by omega)];simp[qta]
theorem qLb{m:kha}(h:kha.bk m<=1048576):vya m:=by
 have hb:kha.bk m=zOa.bk m.Envelope+zIa.bk m.Message+1:=rfl;exact ⟨v4b (by omega),wfb (by omega)⟩
def wBad(w:zga)(r:zba):Bool:= !(w.Recipient==r) || (!(w.Result==0) && !(w.Result==1) && !(w.Result==3)) || (w.Busy && !(w.Result==0))
def opnW(w:zga):Bool:=w.Result==0
def Q4a(e:zca):Bool:=decide (e.To.length=e.Mail.Envelope.To.length) && !((e.To.zip e.Mail.Envelope.To).any fun p=>wBad p.1 p.2) && e.To.any opnW
theorem wBad_eq(w:zga)(r:zba):((bif (!(qta [(w.Recipient.Address==r.Address),(w.Recipient.Notify==r.Notify)])) then some true else (bif (w.Result !=0) then (bif (w.Result !=1) then (bif (w.Result !=3) then some true else (bif w.Busy then some ((w.Result !=0)) else some false)) else (bif w.Busy then some ((w.Result !=0)) else some false)) else (bif w.Busy then some ((w.Result !=0)) else some false))):Option Bool)=some (wBad w r):=by
 rw[rec_eq];unfold wBad;by_cases h0:w.Result=0
 .rw[h0];cases w.Recipient==r <;> cases w.Busy <;> rfl
 have e0:(w.Result==0)=false:=beq_eq_false_iff_ne.2 h0;simp only[bne,e0];cases w.Recipient==r <;> cases w.Busy <;> cases w.Result==1 <;> cases w.Result==3 <;> rfl
theorem zip_get{α β:Type}{a:List α}{b:List β}{p:List (α × β)}{x:α × β}{r:List (α × β)}(h:a.zip b=p++x::r):a[p.length]? =some x.1/\b[p.length]? =some x.2:=by
 have:(a.zip b)[p.length]? =some x:=by rw[h];simp
 rw[List.getElem?_zip_eq_some]at this;exact this
theorem wgb{β:Type}(q:zga->Bool):∀{a:List zga} {b:List β},a.length=b.length->((a.zip b).any fun p=>q p.1)=a.any q
 | [],_,_=>by simp
 | x::a,[],h=>by simp at h
 | x::a,y::b,h=>by simp only[List.zip_cons_cons,List.any_cons];rw[wgb q (by simpa using h)]
theorem jSa(e:zca)(h:e.To.length<=1048576):qWa e=some (Q4a e):=by
 unfold qWa Q4a;by_cases hl:e.To.length=e.Mail.Envelope.To.length
 .rw[show ((e.To.length:Int) !=(e.Mail.Envelope.To.length:Int))=false by rw[hl];simp];simp only[cond_false];have hz:(e.To.zip e.Mail.Envelope.To).length=e.To.length:=by rw[List.length_zip];omega
  have hloop:iter (qra e) (false,0)=some (if (e.To.zip e.Mail.Envelope.To).any (fun p=>wBad p.1 p.2) then .inr false else .inl (false || (e.To.zip e.Mail.Envelope.To).any fun p=>opnW p.1)):=by
   refine KIa (e.To.zip e.Mail.Envelope.To) (fun n s=>(s,(n:Int))) (fun n r s=>(if r.any (fun p=>wBad p.1 p.2) then .inr false else .inl (s || r.any fun p=>opnW p.1):Bool ⊕ Bool)) (fun s=>?_) (fun p x r s hp=>?_) false rfl
   .unfold qra;dsimp only;rw[hz,z5a];simp
   obtain ⟨g1,g2⟩:=zip_get hp;have hlt:=z4a g1;have hb:qra e (s,(p.length:Int))=some (if wBad x.1 x.2 then .out (.inr false) else .cont (s || opnW x.1,((p.length+1:Nat):Int))):=by
    unfold qra vaa;dsimp only;rw[kta g1,zFa g1,zFa g2];simp only[cond_true,jAb,wBad_eq,sc _ (show p.length < 9223372036854775807 by omega)];unfold opnW;cases wBad x.1 x.2 <;> cases s <;> rfl
   rw[hb];cases hw:wBad x.1 x.2 with
   | true=>left;simp[hw]
   | false=>right;exact ⟨_,rfl,by simp only[List.any_cons,hw,jDq,Bool.or_assoc]⟩
  rw[hloop];simp only[jDq,wgb opnW hl];rw[decide_eq_true hl];cases (e.To.zip e.Mail.Envelope.To).any (fun p=>wBad p.1 p.2) <;> rfl
 rw[show ((e.To.length:Int) !=(e.Mail.Envelope.To.length:Int))=true by simp;omega,decide_eq_false hl];rfl
def jja(t:Int):Bool:=decide (-68719476736<=t) && decide (t<=68719476736)
def rngQ(e:zca):Bool:=jja e.Since && jja e.Due && decide (0<=e.Tries) && decide (e.Tries<=1000000)
def queR(nx:Int):Nat->Int->List zca->Option zsa
 | _,_,[]=>none
 | i,last,e::r=>if (jLa e.Mail).Code !=0 then some ⟨(jLa e.Mail).Code,i⟩ else if decide (e.Id<=last) || decide (nx<=e.Id) then some ⟨19,i⟩ else if !rngQ e then some ⟨3,i⟩ else if !Q4a e then some ⟨5,i⟩ else queR nx (i+1) e.Id r
theorem KSa(nx:Int)(i:Nat)(last:Int)(e:zca)(r:List zca):queR nx i last (e::r)=if (jLa e.Mail).Code !=0 then some ⟨(jLa e.Mail).Code,i⟩ else if decide (e.Id<=last) || decide (nx<=e.Id) then some ⟨19,i⟩ else if !rngQ e then some ⟨3,i⟩ else if !Q4a e then some ⟨5,i⟩ else queR nx (i+1) e.Id r:=rfl
def queF(q:zva):zsa:=if 20 < q.Entries.length then ⟨2, -1⟩ else if decide (q.Next < 0) || decide (1000000 < q.Next) then ⟨3, -2⟩ else (queR q.Next 0 (-1) q.Entries).getD ⟨0,0⟩
def ysa(q:zva):Prop:=q.Entries.length<=1048576/\∀e∈q.Entries,vya e.Mail/\e.To.length<=1048576
theorem jka(q:zva)(h:ysa q):vda q=some (queF q):=by
 unfold vda queF;by_cases h20:20 < q.Entries.length
 .rw[decide_eq_true (show (20:Int) < (q.Entries.length:Int) by omega),if_pos h20];rfl
 rw[decide_eq_false (show ¬(20:Int) < (q.Entries.length:Int) by omega),if_neg h20];simp only[cond_false,jAb];have e1:((bif decide (q.Next < 0) then some true else some (decide (1000000 < q.Next))):Option Bool)=some (decide (q.Next < 0) || decide (1000000 < q.Next)):=by cases decide (q.Next < 0) <;> rfl
 rw[e1];simp only[jAb];cases hn:decide (q.Next < 0) || decide (1000000 < q.Next) with
 | true=>rfl
 | false=>
  simp only[cond_false,jAj,if_false];have hloop:iter (qha q) (-1,0)=some ((queR q.Next 0 (-1) q.Entries).elim (.inl ()) .inr):=by
   refine KIa q.Entries (fun n (s:Int)=>(s,(n:Int))) (fun n r s=>((queR q.Next n s r).elim (.inl ()) .inr:Unit ⊕ zsa)) (fun s=>?_) (fun p x r s hp=>?_) (-1) rfl
   .unfold qha;dsimp only;rw[z5a];rfl
   have hx:q.Entries[p.length]? =some x:=by rw[hp];simp
   have hlt:=z4a hx;obtain ⟨⟨m1,m2⟩,m3⟩:=h.2 x (jAe hx);have hb:qha q (s,(p.length:Int))=some (if (jLa x.Mail).Code !=0 then .out (.inr ⟨(jLa x.Mail).Code,p.length⟩) else if decide (x.Id<=s) || decide (q.Next<=x.Id) then .out (.inr ⟨19,p.length⟩) else if !rngQ x then .out (.inr ⟨3,p.length⟩) else if !Q4a x then .out (.inr ⟨5,p.length⟩) else .cont (x.Id,((p.length+1:Nat):Int))):=by
    unfold qha;dsimp only;rw[kta hx,zFa hx];simp only[cond_true,jAb,wDa x.Mail m1 m2,z6a,zNa,wra,jSa x m3,sc _ (show p.length < 9223372036854775807 by omega)];have e2:decide (x.Tries < 0)= !decide (0<=x.Tries):=by rw[jAz];simp
    have e3:decide ((1000000:Int) < x.Tries)= !decide (x.Tries<=1000000):=by rw[jAz];simp
    rw[e2,e3];unfold rngQ jja;cases (jLa x.Mail).Code !=0 <;> cases decide (x.Id<=s) <;> cases decide (q.Next<=x.Id) <;> cases (decide (-68719476736<=x.Since) && decide (x.Since<=68719476736)) <;> cases (decide (-68719476736<=x.Due) && decide (x.Due<=68719476736)) <;> cases decide (0<=x.Tries) <;> cases decide (x.Tries<=1000000) <;> cases Q4a x <;> rfl
   rw[hb,KSa];split
   .exact .inl rfl
   split
   .exact .inl rfl
   split
   .exact .inl rfl
   split
   .exact .inl rfl
   exact .inr ⟨_,rfl,rfl⟩
  rw[hloop];cases queR q.Next 0 (-1) q.Entries <;> rfl
def whb(l:List zca):Prop:=l.length<=1048576/\∀e∈l,vya e.Mail/\e.To.length<=1048576
theorem vza(l:List zca)(h:l.length<=1048576):zWa l=some l:=KQa l (by omega)
theorem jMa(l:List zga)(h:l.length<=1048576):zMa l=some l:=KQa l (by omega)
theorem V8a(L:List zca)(h:whb L):iter (wRa L) (0,0,L)=some (L,L.length):=by
 refine KIa L (fun n (_:Unit)=>((n:Int),n,L)) (fun n r _=>(L,L.length)) (fun _=>?_) (fun p x r _ hp=>.inr ⟨(),?_,rfl⟩) () rfl
 .unfold wRa;dsimp only;rw[z5a];rfl
 have hx:L[p.length]? =some x:=by rw[hp];simp
 have hlt:=z4a hx;have h0:=h.1;obtain ⟨h1,h2⟩:=h.2 x (jAe hx);unfold wRa;dsimp only;rw[kta hx,zFa hx];simp only[cond_true,jAb,jia x.Mail h1,jMa x.To h2,W4a,qvb,jBe,jBc,if_true,Jga hx,zFa hx,sc _ (show p.length < 9223372036854775807 by omega)]
theorem kob(m:kha)(h:m.Envelope.To.length<=1048576):iter (v2a m) (0,([]:List zga))=some (m.Envelope.To.map fun r=>⟨r,0,false⟩):=by
 have:=(Zia m.Envelope.To (fun i acc=>(i,acc)) (fun acc r=>acc++ [(⟨r,0,false⟩:zga)]) (fun acc=>acc) (fun i acc=>acc.length=i) (body:=v2a m) (fun s hs=>by unfold v2a;simp[z5a]) (fun i r acc hr hi=>by
  have hlt:=z4a hr;refine ⟨?_,by simp[hi]⟩;unfold v2a;dsimp only;rw[kta hr,zFa hr];simp only[cond_true,jAb,sc i (by omega)];rw[vxa (by simp;omega)];rfl) ([]:List zga) rfl).1
 rw[this,kRb (fun r=>(⟨r,0,false⟩:zga))];rfl
def newE(q:zva)(m:kha)(now:Int):zca:=⟨q.Next,m,now,0,now,m.Envelope.To.map fun r=>⟨r,0,false⟩⟩
def addP(q:zva)(m:kha)(now:Int):zva × Int × zsa:=
 if (queF q).Code !=0 then (⟨[],0⟩,0,queF q) else if (jLa m).Code !=0 then (⟨[],0⟩,0,⟨(jLa m).Code, -6⟩) else if !jja now then (⟨[],0⟩,0,⟨3, -7⟩) else
 if q.Entries.length=20∨q.Next=1000000 then (⟨[],0⟩,0,⟨2, -8⟩) else (⟨q.Entries++ [newE q m now],q.Next+1⟩,q.Next,⟨0,0⟩)
theorem V9a{nx:Int}:∀{l:List zca} {i:Nat} {last:Int},queR nx i last l=none->∀e∈l,(jLa e.Mail).Code=0/\last < e.Id/\e.Id < nx/\rngQ e=true/\Q4a e=true
 | [],_,_,_,e,he=>by cases he
 | x::l,i,last,h,e,he=>by
  rw[KSa]at h;split at h
  .cases h
  rename_i h1;split at h
  .cases h
  rename_i h2;split at h
  .cases h
  rename_i h3;split at h
  .cases h
  rename_i h4;simp at h1 h2 h3 h4;rcases jCd.1 he with rfl | he
  .exact ⟨h1,by omega,by omega,h3,h4⟩
  obtain ⟨a,b,c⟩:=V9a h e he;exact ⟨a,by omega,c⟩
theorem kSb{nx:Int}:∀{l:List zca} {i:Nat} {last:Int},queR nx i last l=none->l.Pairwise (fun a b=>a.Id < b.Id)
 | [],_,_,_=>List.Pairwise.nil
 | x::l,i,last,h=>by
  rw[KSa]at h;split at h
  .cases h
  split at h
  .cases h
  split at h
  .cases h
  split at h
  .cases h
  exact List.pairwise_cons.2 ⟨fun e he=>(V9a h e he).2.1,kSb h⟩
structure QueOk (q:zva):Prop where
 n:q.Entries.length<=20
 nx:0<=q.Next/\q.Next<=1000000
 ent:∀e∈q.Entries,(jLa e.Mail).Code=0/\0<=e.Id/\e.Id < q.Next/\rngQ e=true/\Q4a e=true
 ids:q.Entries.Pairwise (fun a b=>a.Id < b.Id)
theorem Waa{q:zva}(h:(queF q).Code=0):QueOk q/\queF q=⟨0,0⟩:=by
 unfold queF at h ⊢;by_cases h20:20 < q.Entries.length
 .rw[if_pos h20]at h;cases h
 rw[if_neg h20]at h ⊢;cases hn:decide (q.Next < 0) || decide (1000000 < q.Next) with
 | true=>rw[hn]at h;cases h
 | false=>
  rw[hn]at h;simp only[jAj,if_false]at h ⊢;cases hr:queR q.Next 0 (-1) q.Entries with
  | none=>
   refine ⟨⟨by omega,by simp at hn;omega,fun e he=>?_,kSb hr⟩,rfl⟩;obtain ⟨a,b,c⟩:=V9a hr e he;exact ⟨a,by omega,c⟩
  | some f=>
   exfalso;rw[hr]at h;simp only[jBt]at h;have aux:∀(l:List zca) (i:Nat) (last:Int),queR q.Next i last l=some f->f.Code≠0:=by
    intro l;induction l with
    | nil=>intro i last hh;cases hh
    | cons x l ih=>
     intro i last hh;rw[KSa]at hh;split at hh
     .rename_i h1;cases hh;simpa using h1
     split at hh
     .cases hh;show (19:Int)≠0;decide
     split at hh
     .cases hh;show (3:Int)≠0;decide
     split at hh
     .cases hh;show (5:Int)≠0;decide
     exact ih _ _ hh
   exact aux _ _ _ hr h
theorem zob(q:zva)(m:kha)(now:Int)(hq:ysa q)(hm:vya m):Zga q m now=some (addP q m now):=by
 unfold Zga addP;rw[jka q hq];simp only[jAb,z6a,zNa,kEa,wra];by_cases hc:(queF q).Code=0
 .obtain ⟨ok,hF⟩:=Waa hc;have h1:((queF q).Code !=0)=false:=by simp[hc]
  have hn:=ok.n;have hnx:=ok.nx;have hto:=hm.1.2.2.1;rw[h1,wDa m hm.1 hm.2];simp only[jAb,cond_false,jAj,if_false];cases hmc:(jLa m).Code !=0 with
  | true=>rfl
  | false=>
   simp only[cond_false,jAj,if_false];show (bif !jja now then _ else _)=_;cases jja now with
   | false=>rfl
   | true=>
    simp only[jBh,cond_false,jAj,if_false];have e1:((bif ((q.Entries.length:Int)==20) then some true else some ((q.Next==1000000))):Option Bool)=some (decide (q.Entries.length=20∨q.Next=1000000)):=by
     by_cases h20:q.Entries.length=20
     .rw[h20];simp
     rw[show ((q.Entries.length:Int)==20)=false by rw[beq_eq_false_iff_ne];omega];simp only[cond_false,Option.some.injEq];rw[jAz];simp[h20]
    rw[e1];simp only[jAb];by_cases hl:q.Entries.length=20∨q.Next=1000000
    .rw[decide_eq_true hl,if_pos hl];rfl
    rw[decide_eq_false hl,if_neg hl];simp only[cond_false];rw[vza _ hq.1];simp only[jAb];rw[V8a _ hq];simp only[jAb];rw[jia m hm,kob m hto];simp only[jAb,nall,if_true];rw[vxa (by simp;omega),vga (by omega) (by omega)];rfl
 have h1:((queF q).Code !=0)=true:=by simpa using hc
 rw[h1];rfl
theorem bindC{α β:Type}{o:Option α}{v:α}{f:α->Option β}{r:Option β}(h:o=some v)(h2:f v=r):o.bind f=r:=by rw[h];exact h2
theorem wib(a b:List UInt8)(h:a.length+b.length<=35184372088832):kPa [a,b]=some (a++b):=by
 have l1:iter (kra [a,b]) (0,0)=some ((a.length+b.length:Nat):Int):=by
  have s1:kra [a,b] (0,0)=some (.cont ((a.length:Int),1)):=by
   show (bif decide (w64 ((0:Int)+(a.length:Int)) < 0) then none else some (Step.cont (w64 ((0:Int)+(a.length:Int)),w64 ((0:Int)+1))):Option (Step (Int × Int) Int))=_;rw[show w64 ((0:Int)+(a.length:Int))=(a.length:Int) by rw[vga (by omega) (by omega)];omega,decide_eq_false (by omega)];rfl
  have s2:kra [a,b] ((a.length:Int),1)=some (.cont (((a.length+b.length:Nat):Int),2)):=by
   show (bif decide (w64 ((a.length:Int)+(b.length:Int)) < 0) then none else some (Step.cont (w64 ((a.length:Int)+(b.length:Int)),w64 ((1:Int)+1))):Option (Step (Int × Int) Int))=_;rw[zcb _ _ (by omega),decide_eq_false (by omega)];rfl
  rw[z3a s1,z3a s2];exact zUa rfl
 have hl2:∀s:List UInt8,s.length=0->iter (ksa [a,b]) (0,s)=some (a++b):=by
  intro s hs;have hs0:s=[]:=jBo hs;subst hs0;have s1:ksa [a,b] (0,[])=some (.cont (1,a)):=by
   show ((app 140737488355328 [] a).bind fun v20=>some (Step.cont (w64 ((0:Int)+1),v20)):Option (Step (Int × List UInt8) (List UInt8)))=_;rw[vxa (by simp;omega)];rfl
  have s2:ksa [a,b] (1,a)=some (.cont (2,a++b)):=by
   show ((app 140737488355328 a b).bind fun v20=>some (Step.cont (w64 ((1:Int)+1),v20)):Option (Step (Int × List UInt8) (List UInt8)))=_;rw[vxa (by omega)];rfl
  rw[z3a s1,z3a s2];exact zUa rfl
 unfold kPa;rw[l1];simp only[jAb];rw[decide_eq_false (show ¬((a.length+b.length:Nat):Int) < 0 by omega),show w64 (((a.length+b.length:Nat):Int) - w64 (0 - 0))=((a.length+b.length:Nat):Int) by rw[show w64 (0 - 0)=0 from rfl,vga (by omega) (by omega)];omega];simp only[cond_false];by_cases h0:a.length+b.length=0
 .rw[decide_eq_false (by omega)];have e1:a=[]:=jBo (by omega);have e2:b=[]:=jBo (by omega);subst e1;subst e2;simp only[cond_false];refine bindC (v:=[]) ?_ rfl;rw[z3a (show kUa [([]:List UInt8),[]] (0,[])=some (.cont (1,[])) from rfl),z3a (show kUa [([]:List UInt8),[]] (1,[])=some (.cont (2,[])) from rfl)];exact zUa rfl
 rw[decide_eq_true (by omega)];simp only[cond_true];unfold zrep;rw[if_pos (by omega)];simp only[jAb];rw[show cut (List.replicate ((a.length+b.length:Nat):Int).toNat (0:UInt8)) 0 0=some [] from (QOa (b:=0) (by simp)).trans (by simp)];simp only[jAb];rw[hl2 [] rfl];rfl
def spR(r:zba):List UInt8:=encT r.Address++num8 r.Notify
def spF(f:zka):List UInt8:=encT f.Name++encT f.Value
def spRs(l:List zba):List UInt8:=num8 (l.length:Int)++l.flatMap spR
def spFs(l:List zka):List UInt8:=num8 (l.length:Int)++l.flatMap spF
def spM(m:kha):List UInt8:=encT m.Envelope.From++spRs m.Envelope.To++encT m.Envelope.Id++spFs m.Message.Fields++encT m.Message.Body
def spA(r:zfa):List UInt8:=num8 r.Attempt.Entry++encT r.Attempt.Domain++zgb r.Attempt.To++zgb r.Results
def spB(r:zfa):List UInt8:=num8 r.Kind++num8 r.Now++(if r.Kind==1 then spM r.Mail else spA r)
def spE(r:zfa):List UInt8:=encT (spB r)++num8 (w64 (sumB (spB r)))
structure kqa (r:zfa):Prop where
 mail:vya r.Mail
 dom:r.Attempt.Domain.length<=1048576
 to:r.Attempt.To.length<=1048576
 res:r.Results.length<=1048576
theorem Jha{α:Type}(f:α->List UInt8)(B:Nat):∀l:List α,(∀x∈l,(f x).length<=B)->(l.flatMap f).length<=l.length * B
 | [],_=>by simp
 | x::l,h=>by
  have h1:=Jha f B l (fun y hy=>h y (by simp[hy]));have h2:=h x (by simp);rw[jCy,jAg,jCl,jAv];omega
theorem kpb{r:zba}(h:r.Address.length<=1048576):(spR r).length<=2097152:=by
 unfold spR;rw[jAg,kDa,zLa];omega
theorem kqb{f:zka}(h1:f.Name.length<=1048576)(h2:f.Value.length<=1048576):(spF f).length<=4194304:=by
 unfold spF;rw[jAg,kDa,kDa];omega
theorem yta{m:kha}(h:vya m):m.Envelope.To.length<=1048576/\∀r∈m.Envelope.To,r.Address.length<=1048576:=by
 have:=h.1.2.2;exact ⟨this.1,this.2⟩
theorem jla{m:kha}(h:vya m):m.Message.Fields.length<=1048576/\∀f∈m.Message.Fields,f.Name.length<=1048576/\f.Value.length<=1048576:=by
 have:=h.2.1;exact ⟨this.1,this.2⟩
theorem Jia{m:kha}(h:vya m):(spRs m.Envelope.To).length<=2199023255560:=by
 obtain ⟨h1,h2⟩:=yta h;have:=Jha spR 2097152 m.Envelope.To (fun r hr=>kpb (h2 r hr));unfold spRs;rw[jAg,zLa];have h3:=jAn 2097152 h1;omega
theorem Jja{m:kha}(h:vya m):(spFs m.Message.Fields).length<=4398046511112:=by
 obtain ⟨h1,h2⟩:=jla h;have:=Jha spF 4194304 m.Message.Fields (fun f hf=>kqb (h2 f hf).1 (h2 f hf).2);unfold spFs;rw[jAg,zLa];have h3:=jAn 4194304 h1;omega
theorem zpb(l:List Int):(zgb l).length=8+8 * l.length:=by
 unfold zgb;rw[jAg,zLa,KJa]
theorem Wba{r:zfa}(h:kqa r):(spB r).length<=17592186044416:=by
 have h1:=Jia h.mail;have h2:=Jja h.mail;have h3:=h.mail.1.1;have h4:=h.mail.1.2.1;have h5:=h.mail.2.2;have h6:=h.dom;have h7:=h.to;have h8:=h.res;unfold spB;split
 .unfold spM;simp only[jAg,zLa,kDa];omega
 unfold spA;simp only[jAg,zLa,kDa,zpb];omega
theorem Qza{α:Type}(l:List α)(f:α->List UInt8)(B0 B:Nat)(hB:B0+l.length * B<=26388279066624)(hf:∀x∈l,(f x).length<=B){A:Type}(mk:List UInt8->A){body:Int × A->Option (Step (Int × A) A)}
 (h0:∀s,body ((l.length:Int),mk s)=some (.out (mk s))) (h1:∀(i:Nat) x s,l[i]? =some x->s.length<=26388279066624->body ((i:Int),mk s)=some (.cont (((i+1:Nat):Int),mk (s++f x)))) (s:List UInt8) (hs:s.length<=B0):
 iter body (0,mk s)=some (mk (s++l.flatMap f)):=by
 refine Qva l (fun n (s:List UInt8)=>((n:Int),mk s)) (fun n r s=>mk (s++r.flatMap f)) (fun n r s=>s.length<=B0+n * B) (fun s _=>?_) (fun p x r s hp hi=>.inr ?_) s rfl (by simpa using hs)
 .rw[h0];simp
 have hx:l[p.length]? =some x:=by rw[hp];simp
 have hlt:=z4a hx;have hm:p.length * B<=l.length * B:=jAn _ (by omega);have hfx:=hf x (jAe hx);refine ⟨s++f x,h1 _ x s hx (by omega),by simp,?_⟩;rw[jAg,jAv];omega
theorem wnum8(n:Int)(o:List UInt8)(h:o.length<=70368744177664):iter (kaa n) (0,zma.mk o)=some ⟨o++num8 n⟩:=by
 have:=zfb n rfl 8 0 o rfl (by omega);rw[show iter (kaa n) (0,zma.mk o)=_ from this];simp[num8]
theorem Jka(r:zfa)(h:kqa r):jda r=some (spB r):=by
 obtain ⟨t1,t2⟩:=yta h.mail;obtain ⟨f1,f2⟩:=jla h.mail;have l1:=Jia h.mail;have l2:=Jja h.mail;have h3:=h.mail.1.1;have h4:=h.mail.1.2.1;have h5:=h.mail.2.2;have h6:=h.dom;have h7:=h.to;have h8:=h.res;unfold jda spB;rw[zVa _ _ (by simp)];simp only[jAb,jCo];rw[zVa _ _ (by rw[zLa];omega)];simp only[jAb];have c0:(num8 r.Kind++num8 r.Now).length=16:=by rw[jAg,zLa,zLa]
 generalize num8 r.Kind++num8 r.Now=o at c0;cases hk:r.Kind==1 with
 | true=>
  simp only[cond_true,if_true];rw[kja _ _ (by dsimp only;omega) (by omega)];simp only[jAb];have c1:(o++encT r.Mail.Envelope.From).length<=1048600:=by rw[jAg,kDa];omega
  rw[zVa _ _ (by dsimp only;omega)];simp only[jAb];have c2:(o++encT r.Mail.Envelope.From++num8 (r.Mail.Envelope.To.length:Int)).length<=1048608:=by rw[jAg,zLa];omega
  have m1:=jAn 2097152 t1;rw[Qza r.Mail.Envelope.To spR 1048608 2097152 (by omega) (fun x hx=>kpb (t2 x hx)) zma.mk (body:=wka r) (fun s=>by unfold wka;dsimp only;rw[z5a];rfl) (fun i x s hx hs=>by
   have hi:=z4a hx;have hxa:=t2 x (jAe hx);unfold wka;dsimp only;rw[kta hx,zFa hx];simp only[cond_true,jAb];rw[kja _ _ (by dsimp only;omega) (by omega)];simp only[jAb];rw[zVa _ _ (by dsimp only;rw[jAg,kDa];omega)];simp only[jAb,sc i (by omega)];unfold spR;rw[jAp]) _ c2]
  simp only[jAb];have c3:(o++encT r.Mail.Envelope.From++num8 (r.Mail.Envelope.To.length:Int)++r.Mail.Envelope.To.flatMap spR).length<=2199024304200:=by
   unfold spRs at l1;rw[jAg]at l1;rw[jAg];omega
  rw[kja _ _ (by dsimp only;omega) (by omega)];simp only[jAb];rw[zVa _ _ (by dsimp only;rw[jAg,kDa];omega)];simp only[jAb];have m2:=jAn 4194304 f1;rw[Qza r.Mail.Message.Fields spF 2199025352800 4194304 (by omega) (fun x hx=>kqb (f2 x hx).1 (f2 x hx).2) zma.mk (body:=wla r) (fun s=>by unfold wla;dsimp only;rw[z5a];rfl) (fun i x s hx hs=>by
   have hi:=z4a hx;obtain ⟨hx1,hx2⟩:=f2 x (jAe hx);unfold wla;dsimp only;rw[kta hx,zFa hx];simp only[cond_true,jAb];rw[kja _ _ (by dsimp only;omega) (by omega)];simp only[jAb];rw[kja _ _ (by dsimp only;rw[jAg,kDa];omega) (by omega)];simp only[jAb,sc i (by omega)];unfold spF;rw[jAp]) _ (by rw[jAg,jAg,zLa,kDa];omega)]
  simp only[jAb];rw[kja _ _ (by
   dsimp only;unfold spFs at l2;rw[jAg]at l2;simp only[jAg,zLa,kDa]at c3 ⊢;omega) (by omega)]
  unfold spM spRs spFs;simp[jAp]
 | false=>
  simp only[cond_false,jAj,if_false];rw[zVa _ _ (by dsimp only;omega)];simp only[jAb];rw[kja _ _ (by dsimp only;rw[jAg,zLa];omega) (by omega)];simp only[jAb];have c1:(o++num8 r.Attempt.Entry++encT r.Attempt.Domain).length<=1048700:=by simp only[jAg,zLa,kDa];omega
  rw[zVa _ _ (by dsimp only;omega)];simp only[jAb];rw[Qza r.Attempt.To num8 1048800 8 (by omega) (fun x hx=>by rw[zLa];omega) zma.mk (body:=wma r) (fun s=>by unfold wma;dsimp only;rw[z5a];rfl) (fun i x s hx hs=>by
   have hi:=z4a hx;unfold wma;dsimp only;rw[kta hx,zFa hx];simp only[cond_true,jAb];rw[show iter (jGa x) (0,zma.mk s)=some ⟨s++num8 x⟩ from wnum8 x s (by omega)];simp only[jAb,sc i (by omega)]) _ (by rw[jAg,zLa];omega)]
  simp only[jAb];rw[zVa _ _ (by dsimp only;rw[jAg,jAg,zLa,KJa];omega)];simp only[jAb];rw[Qza r.Results num8 9437500 8 (by omega) (fun x hx=>by rw[zLa];omega) zma.mk (body:=wna r) (fun s=>by unfold wna;dsimp only;rw[z5a];rfl) (fun i x s hx hs=>by
   have hi:=z4a hx;unfold wna;dsimp only;rw[kta hx,zFa hx];simp only[cond_true,jAb];rw[show iter (jHa x) (0,zma.mk s)=some ⟨s++num8 x⟩ from wnum8 x s (by omega)];simp only[jAb,sc i (by omega)]) _ (by simp only[jAg,zLa,KJa]at c1 ⊢;omega)]
  unfold spA zgb;simp[jAp]
theorem yua(r:zfa)(h:kqa r):v3a r=some (spE r):=by
 have hl:=Wba h;unfold v3a spE;rw[Jka r h];simp only[jAb];rw[kja _ _ (by simp) (by omega)];simp only[jAb];rw[QPa _ (by omega)];simp only[jAb];rw[zVa _ _ (by dsimp only;rw[jAg,kDa];simp;omega)];rfl
theorem QAa(r:zfa)(h:kqa r):vNa r=some (spE r):=by
 obtain ⟨t1,t2⟩:=yta h.mail;obtain ⟨f1,f2⟩:=jla h.mail;have l1:=Jia h.mail;have l2:=Jja h.mail;have h3:=h.mail.1.1;have h4:=h.mail.1.2.1;have h5:=h.mail.2.2;have h6:=h.dom;have h7:=h.to;have h8:=h.res;have hlB:=Wba h;unfold vNa;rw[qfa _ _ (by simp)];simp only[jAb,jCo];rw[qfa _ _ (by rw[zLa];omega)];simp only[jAb];have c0:(num8 r.Kind++num8 r.Now).length=16:=by rw[jAg,zLa,zLa]
 generalize ho:num8 r.Kind++num8 r.Now=o at c0;have hb:∀{X:Option (List UInt8)} {F:List UInt8->Option (List UInt8)},X=some (spB r)->F (spB r)=some (spE r)->X.bind F=some (spE r):=by
  intro X F h1 h2;rw[h1];exact h2
 refine hb ?_ ?_
 .unfold spB;rw[ho];cases hk:r.Kind==1 with
  | true=>
   simp only[cond_true,if_true];rw[v5a _ _ (by omega) (by omega)];simp only[jAb];have c1:(o++encT r.Mail.Envelope.From).length<=1048600:=by rw[jAg,kDa];omega
   rw[qfa _ _ (by omega)];simp only[jAb];have c2:(o++encT r.Mail.Envelope.From++num8 (r.Mail.Envelope.To.length:Int)).length<=1048608:=by rw[jAg,zLa];omega
   have m1:=jAn 2097152 t1;rw[show iter (qia r) (0,o++encT r.Mail.Envelope.From++num8 (r.Mail.Envelope.To.length:Int))=_ from Qza r.Mail.Envelope.To spR 1048608 2097152 (by omega) (fun x hx=>kpb (t2 x hx)) id (body:=qia r) (fun s=>by unfold qia;dsimp only[id];rw[z5a];rfl) (fun i x s hx hs=>by
    have hi:=z4a hx;have hxa:=t2 x (jAe hx);unfold qia;dsimp only[id];rw[kta hx,zFa hx];simp only[cond_true,jAb];rw[v5a _ _ (by omega) (by omega)];simp only[jAb];rw[qfa _ _ (by rw[jAg,kDa];omega)];simp only[jAb,sc i (by omega)];unfold spR;rw[jAp]) _ c2]
   simp only[jAb,id];have c3:(o++encT r.Mail.Envelope.From++num8 (r.Mail.Envelope.To.length:Int)++r.Mail.Envelope.To.flatMap spR).length<=2199024304200:=by
    unfold spRs at l1;rw[jAg]at l1;rw[jAg];omega
   rw[v5a _ _ (by omega) (by omega)];simp only[jAb];rw[qfa _ _ (by rw[jAg,kDa];omega)];simp only[jAb];have m2:=jAn 4194304 f1;generalize hq:o++encT r.Mail.Envelope.From++num8 (r.Mail.Envelope.To.length:Int)++r.Mail.Envelope.To.flatMap spR++encT r.Mail.Envelope.Id++num8 (r.Mail.Message.Fields.length:Int)=o2;have c4:o2.length<=2199025352800:=by rw[<-hq,jAg,jAg,zLa,kDa];omega
   rw[show iter (qja r) (0,o2)=_ from Qza r.Mail.Message.Fields spF 2199025352800 4194304 (by omega) (fun x hx=>kqb (f2 x hx).1 (f2 x hx).2) id (body:=qja r) (fun s=>by unfold qja;dsimp only[id];rw[z5a];rfl) (fun i x s hx hs=>by
    have hi:=z4a hx;obtain ⟨hx1,hx2⟩:=f2 x (jAe hx);unfold qja;dsimp only[id];rw[kta hx,zFa hx];simp only[cond_true,jAb];rw[v5a _ _ (by omega) (by omega)];simp only[jAb];rw[v5a _ _ (by rw[jAg,kDa];omega) (by omega)];simp only[jAb,sc i (by omega)];unfold spF;rw[jAp]) _ c4]
   simp only[jAb,id];rw[v5a _ _ (by
    unfold spFs at l2;rw[jAg]at l2;rw[jAg];omega) (by omega)]
   rw[<-hq];unfold spM spRs spFs;simp[jAp]
  | false=>
   simp only[cond_false,jAj,if_false];rw[qfa _ _ (by omega)];simp only[jAb];rw[v5a _ _ (by rw[jAg,zLa];omega) (by omega)];simp only[jAb];rw[KKa _ _ (by simp only[jAg,zLa,kDa];omega) (by omega)];simp only[jAb];rw[KKa _ _ (by simp only[jAg,zLa,kDa,zpb];omega) (by omega)];unfold spA;simp[jAp]
 unfold spE;rw[v5a _ _ (by simp) (by omega)];simp only[jAb];rw[WCa _ (by omega)];simp only[jAb];rw[qfa _ _ (by rw[jAg,kDa];simp;omega)];simp
theorem Yla{K V:Type}[BEq K][LawfulBEq K](m:List (K × V))(k:K)(v:V)(x:K):mget (mput m k v) x=if k==x then some v else mget m x:=by
 induction m with
 | nil=>rfl
 | cons p m ih=>
  obtain ⟨k',v'⟩:=p;unfold mput;by_cases h:k' =k
  .subst h;simp only[beq_self_eq_true,if_true,mget];cases k' ==x <;> simp
  have h1:(k' ==k)=false:=by simpa using h
  rw[h1];simp only[jAj,if_false,mget];rw[ih];by_cases h2:k' =x
  .subst h2;have:(k==k')=false:=by simpa using fun h' =>h h'.symm
   simp[this]
  have:(k' ==x)=false:=by simpa using h2
  rw[this];simp
def wDom(w:zga):Str:=klb w.Recipient.Address
def Zla(l:List zga):Prop:=l.length<=1048576/\∀w∈l,w.Recipient.Address.length<=1048576
def uwL(l:List zga)(d:Str):Bool:=l.any fun w=>w.Busy && wDom w==d
def uwP(e:zca)(d:Str):Bool:=uwL e.To d
def Kga(l:List zca)(d:Str):Nat:=l.countP fun e=>uwP e d
theorem Zma(s:Str)(h:s.length<=1048576):vta s=some (klb s):=by
 unfold vta;rw[jha s (by omega)];simp only[jAb,qIb]
theorem wjb(l:List zca)(d:Str):Kga l d<=l.length:=List.countP_le_length
theorem qMb(e:zca)(h:Zla e.To)(u0:List ((Int × Str) × Bool))(m0:List (Str × Int))(hu:∀d,(mget u0 (e.Id,d)).getD false=false)(hm:∀d,0<=(mget m0 d).getD 0/\(mget m0 d).getD 0<=1048576):
 ∃u m,iter (vea e) (0,u0,m0)=some (u,m)/\(∀id d,(mget u (id,d)).getD false=(id==e.Id && uwP e d || (mget u0 (id,d)).getD false))/\∀d,(mget m d).getD 0=(mget m0 d).getD 0+(if uwP e d then 1 else 0):=by
 have h0:=h.1;have key:∀r p u m,e.To=p++r->(∀id d,(mget u (id,d)).getD false=(id==e.Id && uwL p d || (mget u0 (id,d)).getD false))->(∀d,(mget m d).getD 0=(mget m0 d).getD 0+(if uwL p d then 1 else 0))->
  ∃u2 m2,iter (vea e) ((p.length:Int),u,m)=some (u2,m2)/\(∀id d,(mget u2 (id,d)).getD false=(id==e.Id && uwP e d || (mget u0 (id,d)).getD false))/\∀d,(mget m2 d).getD 0=(mget m0 d).getD 0+(if uwP e d then 1 else 0):=by
  intro r;induction r with
  | nil=>
   intro p u m hp h1 h2;obtain rfl:e.To=p:=by simpa using hp
   refine ⟨u,m,zUa ?_,h1,h2⟩;unfold vea;dsimp only;rw[z5a];rfl
  | cons w r ih=>
   intro p u m hp h1 h2;have hx:e.To[p.length]? =some w:=by rw[hp];simp
   have hlt:=z4a hx;have hun:∀d,uwL (p++ [w]) d=(uwL p d || (w.Busy && wDom w==d)):=fun d=>by unfold uwL;simp
   have hb:vea e ((p.length:Int),u,m)=some (.cont (((p.length+1:Nat):Int),if w.Busy && !uwL p (wDom w) then mput u (e.Id,wDom w) true else u,if w.Busy && !uwL p (wDom w) then mput m (wDom w) ((mget m (wDom w)).getD 0+1) else m)):=by
    unfold vea;dsimp only;rw[kta hx,zFa hx];simp only[cond_true,jAb,Zma _ (h.2 w (jAe hx)),sc _ (show p.length < 9223372036854775807 by omega)];have e1:(mget u (e.Id,klb w.Recipient.Address)).getD false=uwL p (wDom w):=by
     have:=h1 e.Id (wDom w);rw[hu]at this;have h3:(mget u (e.Id,wDom w)).getD false=uwL p (wDom w):=by simpa using this
     exact h3
    rw[e1];have e2:w64 ((mget m (klb w.Recipient.Address)).getD 0+1)=(mget m (wDom w)).getD 0+1:=by
     have:=h2 (wDom w);have:=hm (wDom w);refine vga ?_ ?_
     .show _<=(mget m (wDom w)).getD 0+1;split at * <;> omega
     show (mget m (wDom w)).getD 0+1<=_;split at * <;> omega
    rw[e2];cases w.Busy <;> cases uwL p (wDom w) <;> rfl
   rw[z3a hb];have:=ih (p++ [w]) (if w.Busy && !uwL p (wDom w) then mput u (e.Id,wDom w) true else u) (if w.Busy && !uwL p (wDom w) then mput m (wDom w) ((mget m (wDom w)).getD 0+1) else m) (by simp[hp]) (fun id d=>by
    rw[hun];cases hc:w.Busy && !uwL p (wDom w) with
    | true=>
     simp only[jAs,jCb]at hc;rw[if_pos rfl,Yla];by_cases hk:(e.Id,wDom w)=(id,d)
     .cases hk;simp[hc.1]
     have hk' :((e.Id,wDom w)==(id,d))=false:=beq_eq_false_iff_ne.2 hk;rw[hk'];simp only[jAj,if_false];rw[h1];by_cases hi:id=e.Id
     .subst hi;have hd:(wDom w==d)=false:=beq_eq_false_iff_ne.2 fun h=>hk (by rw[h])
      simp[hd]
     have:(id==e.Id)=false:=beq_eq_false_iff_ne.2 hi;simp[this]
    | false=>
     rw[if_neg (by decide),h1];cases hbz:w.Busy with
     | false=>simp
     | true=>
      rw[hbz]at hc;simp only[jDp,Bool.not_eq_eq_eq_not,jDt]at hc;by_cases hd:wDom w=d
      .subst hd;simp[hc]
      have:(wDom w==d)=false:=beq_eq_false_iff_ne.2 hd;simp[this]) (fun d=>by
    rw[hun];cases hc:w.Busy && !uwL p (wDom w) with
    | true=>
     simp only[jAs,jCb]at hc;rw[if_pos rfl,Yla];by_cases hk:wDom w=d
     .subst hk;simp only[beq_self_eq_true,if_true,jBt];rw[h2,hc.1,hc.2];simp
     have hk' :(wDom w==d)=false:=beq_eq_false_iff_ne.2 hk;rw[hk'];simp only[jAj,if_false];rw[h2];simp
    | false=>
     rw[if_neg (by decide),h2];cases hbz:w.Busy with
     | false=>simp
     | true=>
      rw[hbz]at hc;simp only[jDp,Bool.not_eq_eq_eq_not,jDt]at hc;by_cases hd:wDom w=d
      .subst hd;simp[hc]
      have:(wDom w==d)=false:=beq_eq_false_iff_ne.2 hd;simp[this])
   simpa using this
 exact key e.To [] u0 m0 rfl (fun id d=>by simp[uwL]) (fun d=>by simp[uwL])
theorem busy_eq(q:zva)(hl:q.Entries.length<=20)(h:∀e∈q.Entries,Zla e.To)(hid:q.Entries.Pairwise (fun a b=>a.Id < b.Id)):
 ∃u m,iter (vMa q) (0,([]:List ((Int × Str) × Bool)),([]:List (Str × Int)))=some (u,m)/\(∀id d,(mget u (id,d)).getD false=q.Entries.any fun e=>id==e.Id && uwP e d)/\∀d,(mget m d).getD 0=(Kga q.Entries d:Int):=by
 have key:∀r p u m,q.Entries=p++r->(∀id d,(mget u (id,d)).getD false=p.any fun e=>id==e.Id && uwP e d)->(∀d,(mget m d).getD 0=(Kga p d:Int))->
  ∃u2 m2,iter (vMa q) ((p.length:Int),u,m)=some (u2,m2)/\(∀id d,(mget u2 (id,d)).getD false=q.Entries.any fun e=>id==e.Id && uwP e d)/\∀d,(mget m2 d).getD 0=(Kga q.Entries d:Int):=by
  intro r;induction r with
  | nil=>
   intro p u m hp h1 h2;have hp' :q.Entries=p:=by simpa using hp
   refine ⟨u,m,zUa ?_,by rw[hp'];exact h1,by rw[hp'];exact h2⟩;unfold vMa;dsimp only;rw[<-hp',z5a];rfl
  | cons e r ih=>
   intro p u m hp h1 h2;have hx:q.Entries[p.length]? =some e:=by rw[hp];simp
   have hlt:=z4a hx;obtain ⟨u',m',hin,i1,i2⟩:=qMb e (h e (jAe hx)) u m (fun d=>by
    rw[h1,jCr];intro x hxp hc;rw[hp,List.pairwise_append]at hid;have:=hid.2.2 x hxp e (by simp);simp at hc;omega) (fun d=>by
    rw[h2];have:=wjb p d;have:p.length<=20:=by rw[hp]at hl;simp at hl;omega
    omega)
   have hb:vMa q ((p.length:Int),u,m)=some (.cont (((p.length+1:Nat):Int),u',m')):=by
    unfold vMa;dsimp only;rw[kta hx,zFa hx];simp only[cond_true,jAb,hin,sc _ (show p.length < 9223372036854775807 by omega)]
   rw[z3a hb];have:=ih (p++ [e]) u' m' (by simp[hp]) (fun id d=>by
    rw[i1,h1,List.any_append];simp[Bool.or_comm]) (fun d=>by
    have e1:Kga (p++ [e]) d=Kga p d+(if uwP e d then 1 else 0):=by
     unfold Kga;rw[List.countP_append,List.countP_cons,List.countP_nil];simp
    rw[i2,h2,e1];split <;> simp)
   simpa using this
 exact key q.Entries [] [] [] rfl (fun id d=>by simp[mget]) (fun d=>by simp[mget,Kga])
section
section
variable {α:Type} (key:α->Int)
end
end
theorem id_inj:∀{l:List zca},l.Pairwise (fun a b=>a.Id < b.Id)->∀x∈l,∀y∈l,x.Id=y.Id->x=y
 | [],_,x,hx,_,_,_=>by cases hx
 | a::l,h,x,hx,y,hy,he=>by
  obtain ⟨h1,h2⟩:=List.pairwise_cons.1 h;rcases jCd.1 hx with rfl | hx' <;> rcases jCd.1 hy with rfl | hy'
  .rfl
  .have:=h1 y hy';omega
  .have:=h1 x hx';omega
  exact id_inj h2 x hx' y hy' he
def wYa(q:zva):Prop:=∀e∈q.Entries,Zla e.To
def posI(l:List zca)(id:Int):Int:=(kCa (fun i x=>if x.Id==id then some ((i:Nat):Int) else none) 0 l).getD (-1)
theorem wkb(l:List zca)(id:Int):(posI l id= -1/\∀x∈l,x.Id≠id)∨∃(n:Nat) (x:zca),posI l id=(n:Int)/\l[n]? =some x/\x.Id=id:=by
 unfold posI;cases hf:kCa (fun i x=>if x.Id==id then some ((i:Nat):Int) else none) 0 l with
 | none=>
  left;refine ⟨rfl,fun x hx he=>?_⟩;rw[q3a]at hf;obtain ⟨i,hi⟩:=List.mem_iff_getElem?.1 hx;have:=hf i x hi;simp[he]at this
 | some z=>
  right;obtain ⟨i,x,h1,h2⟩:=Kea hf;by_cases he:x.Id=id
  .simp[he]at h2;exact ⟨i,x,by simp[<-h2],h1,he⟩
  simp[he]at h2
def toR(e:zca)(dom:Str)(on:Bool):Nat->Int->List Int->Option zsa
 | _,_,[]=>none
 | i,last,k::r=>if decide (k<=last) || decide ((e.To.length:Int)<=k) then some ⟨3,i⟩ else match e.To[k.toNat]? with
  | none=>none
  | some w=>if wDom w !=dom then some ⟨5,i⟩ else if w.Result !=0 || w.Busy !=on then some ⟨8,i⟩ else toR e dom on (i+1) k r
def attP(q:zva)(a:zwa)(on:Bool):Int × zsa:=
 if posI q.Entries a.Entry= -1 then (0,⟨6, -3⟩) else match q.Entries[(posI q.Entries a.Entry).toNat]? with
  | none=>(0,⟨6, -3⟩)
  | some e=>if a.To.length=0∨e.To.length < a.To.length then (0,⟨2, -4⟩) else match toR e a.Domain on 0 (-1) a.To with
   | some f=>(0,f)
   | none=>(posI q.Entries a.Entry,⟨0,0⟩)
theorem att_loop(e:zca)(a:zwa)(on:Bool)(he:Zla e.To)(hl:a.To.length<=1048576):∀(r p:List Int) (last:Int),a.To=p++r->(p=[]/\last= -1∨0<=last/\∃p',p=p' ++ [last])->
 iter (kSa a on e) (p.length:Int)=some (match toR e a.Domain on p.length last r with | some f=>.inr (0,f) | none=>.inl ()):=by
 intro r;have h0:=he.1;induction r with
 | nil=>
  intro p last hp hc;have hp' :a.To=p:=by simpa using hp
  refine zUa ?_;unfold kSa;rw[<-hp',z5a];rfl
 | cons k r ih=>
  intro p last hp hc;have hx:a.To[p.length]? =some k:=by rw[hp];simp
  have hlt:=z4a hx;have hcond:((bif decide (k < 0) then some true else (bif decide ((e.To.length:Int)<=k) then some true else (bif decide (0 < (p.length:Int)) then (idx a.To ((w64 ((p.length:Int) - 1)))).bind fun v38=>some (decide (k<=v38)) else some false))):Option Bool)=some (decide (k<=last) || decide ((e.To.length:Int)<=k)):=by
   rcases hc with ⟨rfl,rfl⟩ | ⟨hl0,p',rfl⟩
   .have:decide (k < 0)=decide (k<= -1):=by congr 1;apply propext;omega
    rw[this];simp only[jCx];cases decide (k<= -1) <;> cases decide ((e.To.length:Int)<=k) <;> rfl
   have h1:decide (0 < (((p' ++ [last]).length:Nat):Int))=true:=decide_eq_true (by rw[jAg,jDg];omega);have h2:idx a.To ((w64 (((p' ++ [last]).length:Int) - 1)))=some last:=by
    rw[show (((p' ++ [last]).length:Int) - 1)=(p'.length:Int) by simp,qxb _ (by simp at hlt;omega)];rw[Qua,hp];simp
   rw[h1,h2];simp only[cond_true,jAb];by_cases hk:k < 0
   .rw[decide_eq_true hk,decide_eq_true (show k<=last by omega)];rfl
   rw[decide_eq_false hk];cases decide ((e.To.length:Int)<=k) <;> cases decide (k<=last) <;> rfl
  unfold toR;cases hq:decide (k<=last) || decide ((e.To.length:Int)<=k) with
  | true=>
   rw[if_pos rfl];refine zUa ?_;unfold kSa;rw[kta hx,zFa hx];simp only[cond_true,jAb];rw[hcond,hq];rfl
  | false=>
   rw[if_neg (by decide)];simp at hq;have hlast: -1<=last:=by rcases hc with ⟨_,rfl⟩ | ⟨h,_⟩ <;> omega
   obtain ⟨kn,rfl⟩:∃kn:Nat,k=(kn:Int):=⟨k.toNat,by omega⟩;have hkl:kn < e.To.length:=by omega
   have hw:e.To[kn]? =some e.To[kn]:=jAi hkl;generalize e.To[kn]=w at hw;have hmem:=jAe hw;have hqf:(decide ((kn:Int)<=last) || decide ((e.To.length:Int)<=(kn:Int)))=false:=by simp;omega
   have hb:kSa a on e (p.length:Int)=some (if wDom w !=a.Domain then .out (.inr (0,⟨5,p.length⟩)) else if w.Result !=0 || w.Busy !=on then .out (.inr (0,⟨8,p.length⟩)) else .cont ((p.length+1:Nat):Int)):=by
    unfold kSa;rw[kta hx,zFa hx];simp only[cond_true,jAb];rw[hcond,hqf];simp only[jAb,cond_false,zFa hw,Zma _ (he.2 w hmem),zNa,sc _ (show p.length < 9223372036854775807 by omega)];show _=some (if wDom w !=a.Domain then _ else _);unfold wDom;cases (klb w.Recipient.Address !=a.Domain) <;> cases (w.Result !=0) <;> cases (w.Busy !=on) <;> rfl
   simp only[jBe,hw];cases h1:wDom w !=a.Domain with
   | true=>rw[h1]at hb;rw[zUa hb];rfl
   | false=>
    rw[h1]at hb;cases h2:w.Result !=0 || w.Busy !=on with
    | true=>rw[h2]at hb;rw[zUa hb];rfl
    | false=>
     rw[h2]at hb;simp only[jAj,if_false]at hb ⊢;rw[z3a hb];have:=ih (p++ [(kn:Int)]) (kn:Int) (by simp[hp]) (.inr ⟨by omega,p,rfl⟩);simpa using this
theorem jTa(q:zva)(a:zwa)(on:Bool)(hq:ysa q)(hw:wYa q)(hl:a.To.length<=1048576):vGa q a on=some (if (queF q).Code !=0 then (0,queF q) else attP q a on):=by
 unfold vGa attP;rw[jka q hq];simp only[jAb,z6a,zNa,kEa];by_cases hc:(queF q).Code=0
 .obtain ⟨ok,hF⟩:=Waa hc;have hn:=ok.n;have h1:((queF q).Code !=0)=false:=by simp[hc]
  rw[h1];simp only[cond_false,jAj,if_false];have hpos:((iter (vba q a) 0).bind (Sum.elim (fun b8=>some ((-1))) (fun b9=>some b9)):Option Int)=some (posI q.Entries a.Entry):=by
   rw[kKa q.Entries (fun i x=>if x.Id==a.Entry then some ((i:Nat):Int) else none) (.inl ()) .inr]
   .simp only[jAb,Vja];rfl
   .unfold vba;rw[z5a];rfl
   intro i x hx;have hi:=z4a hx;unfold vba;rw[kta hx,zFa hx];simp only[cond_true,jAb,sc i (by omega)];cases x.Id==a.Entry <;> rfl
  rw[hpos];simp only[jAb];rcases wkb q.Entries a.Entry with ⟨h2,_⟩ | ⟨n,e,h2,h3,h4⟩
  .rw[h2];rfl
  rw[h2];have hlt:=z4a h3;rw[decide_eq_false (show ¬((n:Int) < 0) by omega),if_neg (by omega),zFa h3];simp only[cond_false,jAb,jBe,h3];have e1:((bif ((a.To.length:Int)==0) then some true else some (decide ((e.To.length:Int) < (a.To.length:Int)))):Option Bool)=some (decide (a.To.length=0∨e.To.length < a.To.length)):=by
   by_cases h0:a.To.length=0
   .rw[h0];simp
   rw[show ((a.To.length:Int)==0)=false by rw[beq_eq_false_iff_ne];omega];simp only[cond_false,Option.some.injEq]
   congr 1;apply propext;omega
  rw[e1];simp only[jAb];by_cases h5:a.To.length=0∨e.To.length < a.To.length
  .rw[decide_eq_true h5,if_pos h5];rfl
  rw[decide_eq_false h5,if_neg h5];simp only[cond_false];have:=att_loop e a on (hw e (jAe h3)) hl a.To [] (-1) rfl (.inl ⟨rfl,rfl⟩);rw[show iter (kSa a on e) 0=_ from this];simp only[jCx];cases toR e a.Domain on 0 (-1) a.To <;> rfl
 have h1:((queF q).Code !=0)=true:=by simpa using hc
 rw[h1];rfl
def wTo(e:zca)(T:List zga):zca:=⟨e.Id,e.Mail,e.Since,e.Tries,e.Due,T⟩
def onK(T:List zga)(k:Int):List zga:=match T[k.toNat]? with
 | some w=>T.set k.toNat ⟨w.Recipient,w.Result,true⟩
 | none=>T
theorem krb(T:List zga)(k:Int):(onK T k).length=T.length:=by unfold onK;split <;> simp
theorem kTb(e:zca)(dom:Str)(on:Bool):∀(ks:List Int) (i:Nat) (last:Int) (f:zsa),toR e dom on i last ks=some f->f.Code≠0
 | [],_,_,_,h=>by cases h
 | k::ks,i,last,f,h=>by
  unfold toR at h;split at h
  .cases h;simp
  split at h
  .cases h
  split at h
  .cases h;simp
  split at h
  .cases h;simp
  exact kTb e dom on ks _ _ _ h
theorem Jla(e:zca)(dom:Str)(on:Bool):∀(ks:List Int) (i:Nat) (last:Int), -1<=last->toR e dom on i last ks=none->∀k∈ks,last < k/\k < (e.To.length:Int)/\∃w,e.To[k.toNat]? =some w/\wDom w=dom/\w.Result=0/\w.Busy=on
 | [],_,_,_,_,k,hk=>by cases hk
 | k::ks,i,last,hl,h,x,hx=>by
  unfold toR at h;split at h
  .cases h
  rename_i h1;simp at h1;have hkl:k.toNat < e.To.length:=by omega
  rw[jAi hkl]at h;generalize hw:e.To[k.toNat]=w at h;dsimp only at h;split at h
  .cases h
  rename_i h2;split at h
  .cases h
  rename_i h3;simp at h2 h3;rcases jCd.1 hx with rfl | hx
  .exact ⟨by omega,by omega,w,by rw[jAi hkl,hw],h2,h3.1,h3.2⟩
  obtain ⟨a,b,c⟩:=Jla e dom on ks _ k (by omega) h x hx;exact ⟨by omega,b,c⟩
theorem Jma{q:zva}{a:zwa}{on:Bool}(h:(attP q a on).2.Code=0):∃(n:Nat) (e:zca),attP q a on=((n:Int),⟨0,0⟩)/\q.Entries[n]? =some e/\e.Id=a.Entry/\toR e a.Domain on 0 (-1) a.To=none/\1<=a.To.length/\a.To.length<=e.To.length:=by
 unfold attP at h ⊢;rcases wkb q.Entries a.Entry with ⟨h2,_⟩ | ⟨n,e,h2,h3,h4⟩
 .rw[h2]at h;simp at h
 rw[h2]at h ⊢;rw[if_neg (by omega)]at h ⊢;simp only[jBe,h3]at h ⊢;by_cases h5:a.To.length=0∨e.To.length < a.To.length
 .rw[if_pos h5]at h;simp at h
 rw[if_neg h5]at h ⊢;cases ht:toR e a.Domain on 0 (-1) a.To with
 | some f=>rw[ht]at h;exact absurd h (kTb _ _ _ _ _ _ _ ht)
 | none=>exact ⟨n,e,rfl,h3,h4,ht,by omega,by omega⟩
def Yma(L:List zca)(n:Nat)(ks:List Int):List zca:=match L[n]? with
 | some e=>L.set n (wTo e (ks.foldl onK e.To))
 | none=>L
def Zna(q:zva)(a:zwa):zva × zsa:=
 if (queF q).Code !=0 then (⟨[],0⟩,queF q) else if (attP q a false).2.Code !=0 then (⟨[],0⟩,(attP q a false).2) else
 if decide (2<=Kga q.Entries a.Domain) || uwP ((q.Entries[(attP q a false).1.toNat]?).getD ⟨0,⟨⟨[],[],[]⟩,⟨[],[]⟩⟩,0,0,0,[]⟩) a.Domain then (⟨[],0⟩,⟨8, -5⟩) else (⟨Yma q.Entries (attP q a false).1.toNat a.To,q.Next⟩,⟨0,0⟩)
theorem Zoa{L:List zca}{n:Nat}(hn:n < L.length)(x:zca):idx (L.set n x) (n:Int)=some x:=zFa (by simp[hn])
theorem qNb{a:zwa}{f:zsa}{L:List zca}{n:Nat}{e:zca}(he:L[n]? =some e)(hl:a.To.length<=1048576)(hk:∀k∈a.To,0<=k/\k < (e.To.length:Int))
 {body:Int × List zca->Option (Step (Int × List zca) (List zca))} (hb:body=wga a ((n:Int),f) (L,L.length)∨body=Kda a ((n:Int),f) (L,L.length)):
 iter body (0,L)=some (L.set n (wTo e (a.To.foldl onK e.To))):=by
 have hn:=z4a he;have key:∀(r p:List Int) (T:List zga),a.To=p++r->T.length=e.To.length->iter body ((p.length:Int),L.set n (wTo e T))=some (L.set n (wTo e (r.foldl onK T))):=by
  intro r;induction r with
  | nil=>
   intro p T hp hT;have hp' :a.To=p:=by simpa using hp
   refine zUa ?_;rcases hb with rfl | rfl
   .unfold wga;dsimp only;rw[<-hp',z5a];rfl
   unfold Kda;dsimp only;rw[<-hp',z5a];rfl
  | cons k r ih=>
   intro p T hp hT;have hx:a.To[p.length]? =some k:=by rw[hp];simp
   have hlt:=z4a hx;obtain ⟨k0,k1⟩:=hk k (jAe hx);obtain ⟨kn,rfl⟩:∃kn:Nat,k=(kn:Int):=⟨k.toNat,by omega⟩;have hkT:T[kn]? =some (T[kn]'(by omega)):=jAi (by omega);generalize T[kn]'(by omega)=w at hkT;have hon:onK T (kn:Int)=T.set kn ⟨w.Recipient,w.Result,true⟩:=by unfold onK;simp only[jBe,hkT]
   have hnown:nown L.length (n:Int)=some true:=by unfold nown;rw[if_pos (by simpa using hn)]
   have hw:idx (wTo e T).To (kn:Int)=some w:=zFa hkT;have hc:body ((p.length:Int),L.set n (wTo e T))=some (.cont (((p.length+1:Nat):Int),L.set n (wTo e (onK T (kn:Int))))):=by
    rcases hb with rfl | rfl
    .unfold wga;dsimp only;rw[kta hx,zFa hx];simp only[cond_true,jAb,Zoa hn,hnown,hw,sc _ (show p.length < 9223372036854775807 by omega),jBe,jDu,hon];rfl
    unfold Kda;dsimp only;rw[kta hx,zFa hx];simp only[cond_true,jAb,Zoa hn,hnown,hw,sc _ (show p.length < 9223372036854775807 by omega),jBe,jDu,hon];rfl
   rw[z3a hc];have:=ih (p++ [(kn:Int)]) (onK T (kn:Int)) (by simp[hp]) (by rw[krb,hT]);simpa using this
 have h0:L.set n (wTo e e.To)=L:=Jga he;have:=key a.To [] e.To rfl rfl;rw[h0]at this;exact this
theorem Yna{q:zva}(hq:ysa q)(ok:QueOk q):whb q.Entries:=⟨hq.1,hq.2⟩
theorem Jna(q:zva)(a:zwa)(hq:ysa q)(hw:wYa q)(hl:a.To.length<=1048576):y9a q a=some (Zna q a):=by
 unfold y9a Zna;rw[jTa q a false hq hw hl];simp only[jAb,z6a,zNa,kEa];by_cases hc:(queF q).Code=0
 .obtain ⟨ok,hF⟩:=Waa hc;have h1:((queF q).Code !=0)=false:=by simp[hc]
  have hn:=ok.n;rw[h1];simp only[jAj,if_false];by_cases hca:(attP q a false).2.Code=0
  .obtain ⟨n,e,ha,he,hid,ht,t1,t2⟩:=Jma hca;have hne:=z4a he;rw[ha];simp only[bne_self_eq_false,cond_false,jAj,if_false,jBe,he,jBt];obtain ⟨u,m,hbz,hu,hm⟩:=busy_eq q hn hw ok.ids;rw[show iter (jDa q) (0,([]:List ((Int × Str) × Bool)),([]:List (Str × Int)))=some (u,m) from hbz];simp only[jAb,hm,hu];have e1:(q.Entries.any fun x=>a.Entry==x.Id && uwP x a.Domain)=uwP e a.Domain:=by
    rw[jAz,List.any_eq_true];constructor
    .rintro ⟨x,hx,hxe⟩;simp at hxe;have:x=e:=id_inj ok.ids x hx e (jAe he) (by rw[hid];exact hxe.1.symm);rw[<-this];exact hxe.2
    intro h;exact ⟨e,jAe he,by simp[h,hid]⟩
   rw[e1];have e2:decide ((2:Int)<=(Kga q.Entries a.Domain:Int))=decide (2<=Kga q.Entries a.Domain):=by congr 1;apply propext;omega
   rw[e2];have e3:((bif decide (2<=Kga q.Entries a.Domain) then some true else some (uwP e a.Domain)):Option Bool)=some (decide (2<=Kga q.Entries a.Domain) || uwP e a.Domain):=by cases decide (2<=Kga q.Entries a.Domain) <;> rfl
   rw[e3];simp only[jAb];cases decide (2<=Kga q.Entries a.Domain) || uwP e a.Domain with
   | true=>rfl
   | false=>
    simp only[cond_false,jAj,if_false];rw[vza _ (by omega)];simp only[jAb];rw[show iter (jEa q.Entries) (0,0,q.Entries)=some (q.Entries,q.Entries.length) from V8a q.Entries (Yna hq ok)];simp only[jAb];rw[qNb he hl (fun k hk=>by have:=Jla _ _ _ _ _ _ (by omega) ht k hk;omega) (.inl rfl)];unfold Yma;rw[he];rfl
  have h2:((attP q a false).2.Code !=0)=true:=by simpa using hca
  rw[h2];rfl
 have h1:((queF q).Code !=0)=true:=by simpa using hc
 rw[h1];simp only[if_true,h1,cond_true]
def ksb(t:Int):Int:=if 8 < t then 14400 else 60 * 2 ^ (t - 1).toNat
theorem zPa(t w i w' i' :Int)(h1:decide (i < t)=true)(h2:decide (w < 14400)=true)(h3:min (w64 (2 * w)) 14400=w')(h4:w64 (i+1)=i'):iter (qwa t) (w,i)=iter (qwa t) (w',i'):=by
 refine z3a ?_;unfold qwa;dsimp only;rw[h1,h2,h3,h4];rfl
theorem wsa(t w i:Int)(h:(decide (i < t) && decide (w < 14400))=false):iter (qwa t) (w,i)=some w:=by
 refine zUa ?_;unfold qwa;dsimp only;cases h1:decide (i < t) with
 | false=>rfl
 | true=>rw[h1]at h;simp only[jDp]at h;rw[h];rfl
theorem wait_eq(t:Int)(h:1<=t):iter (qwa t) (60,1)=some (ksb t):=by
 by_cases h8:8 < t
 .unfold ksb;rw[if_pos h8];rw[zPa t 60 1 120 2 (decide_eq_true (by omega)) rfl rfl rfl,zPa t 120 2 240 3 (decide_eq_true (by omega)) rfl rfl rfl,zPa t 240 3 480 4 (decide_eq_true (by omega)) rfl rfl rfl,zPa t 480 4 960 5 (decide_eq_true (by omega)) rfl rfl rfl,zPa t 960 5 1920 6 (decide_eq_true (by omega)) rfl rfl rfl,zPa t 1920 6 3840 7 (decide_eq_true (by omega)) rfl rfl rfl,zPa t 3840 7 7680 8 (decide_eq_true (by omega)) rfl rfl rfl,zPa t 7680 8 14400 9 (decide_eq_true (by omega)) rfl rfl rfl];exact wsa t 14400 9 (by simp)
 have:t=1∨t=2∨t=3∨t=4∨t=5∨t=6∨t=7∨t=8:=by omega
 rcases this with rfl | rfl | rfl | rfl | rfl | rfl | rfl | rfl
 .exact wsa 1 60 1 rfl
 .rw[zPa 2 60 1 120 2 rfl rfl rfl rfl];exact wsa 2 120 2 rfl
 .rw[zPa 3 60 1 120 2 rfl rfl rfl rfl,zPa 3 120 2 240 3 rfl rfl rfl rfl];exact wsa 3 240 3 rfl
 .rw[zPa 4 60 1 120 2 rfl rfl rfl rfl,zPa 4 120 2 240 3 rfl rfl rfl rfl,zPa 4 240 3 480 4 rfl rfl rfl rfl];exact wsa 4 480 4 rfl
 .rw[zPa 5 60 1 120 2 rfl rfl rfl rfl,zPa 5 120 2 240 3 rfl rfl rfl rfl,zPa 5 240 3 480 4 rfl rfl rfl rfl,zPa 5 480 4 960 5 rfl rfl rfl rfl];exact wsa 5 960 5 rfl
 .rw[zPa 6 60 1 120 2 rfl rfl rfl rfl,zPa 6 120 2 240 3 rfl rfl rfl rfl,zPa 6 240 3 480 4 rfl rfl rfl rfl,zPa 6 480 4 960 5 rfl rfl rfl rfl,zPa 6 960 5 1920 6 rfl rfl rfl rfl];exact wsa 6 1920 6 rfl
 .rw[zPa 7 60 1 120 2 rfl rfl rfl rfl,zPa 7 120 2 240 3 rfl rfl rfl rfl,zPa 7 240 3 480 4 rfl rfl rfl rfl,zPa 7 480 4 960 5 rfl rfl rfl rfl,zPa 7 960 5 1920 6 rfl rfl rfl rfl,zPa 7 1920 6 3840 7 rfl rfl rfl rfl];exact wsa 7 3840 7 rfl
 rw[zPa 8 60 1 120 2 rfl rfl rfl rfl,zPa 8 120 2 240 3 rfl rfl rfl rfl,zPa 8 240 3 480 4 rfl rfl rfl rfl,zPa 8 480 4 960 5 rfl rfl rfl rfl,zPa 8 960 5 1920 6 rfl rfl rfl rfl,zPa 8 1920 6 3840 7 rfl rfl rfl rfl,zPa 8 3840 7 7680 8 rfl rfl rfl rfl];exact wsa 8 7680 8 rfl
theorem zqb(t:Int)(h:1<=t):0<=ksb t/\ksb t<=14400:=by
 unfold ksb;by_cases h8:8 < t
 .rw[if_pos h8];omega
 have:t=1∨t=2∨t=3∨t=4∨t=5∨t=6∨t=7∨t=8:=by omega
 rcases this with rfl | rfl | rfl | rfl | rfl | rfl | rfl | rfl <;> decide
def jUa(since tries now:Int):Int × Bool:=if since+345600<=now then (0,false) else (min (min (now+ksb tries) (since+345600)) 68719476736,true)
theorem QUa{t:Int}(h:jja t=true): -68719476736<=t/\t<=68719476736:=by
 unfold jja at h;simpa using h
theorem zrb(a b:Int)(ha:jja a=true)(hb:jja b=true):ypa [a,b]=some true:=by
 unfold ypa;have t0:∀v,jja v=true->qLa v=some true:=fun v hv=>by rw[wra];exact congrArg some hv
 have h1:qBa [a,b] 0=some (.cont 1):=by
  unfold qBa;rw[show idx [a,b] 0=some a from rfl];simp only[jAb,t0 a ha];rfl
 have h2:qBa [a,b] 1=some (.cont 2):=by
  unfold qBa;rw[show idx [a,b] 1=some b from rfl];simp only[jAb,t0 b hb];rfl
 rw[z3a h1,z3a h2,zUa (r:=.inl ()) rfl];rfl
theorem Joa(a t n:Int)(ha:jja a=true)(hn:jja n=true)(ht:1<=t/\t<=1000000)(hle:a<=n):jaa a t n=some ((jUa a t n).1,(jUa a t n).2,⟨0,0⟩):=by
 unfold jaa jUa;obtain ⟨a1,a2⟩:=QUa ha;obtain ⟨n1,n2⟩:=QUa hn;obtain ⟨w1,w2⟩:=zqb t ht.1;rw[zrb a n ha hn,wait_eq t ht.1];simp only[jAb,kEa,jBh,cond_false];rw[decide_eq_false (show ¬t < 1 by omega),decide_eq_false (show ¬(1000000:Int) < t by omega),decide_eq_false (show ¬n < a by omega),vga (n:=a+345600) (by omega) (by omega),vga (n:=n+ksb t) (by omega) (by omega)];simp only[cond_false,jAb];by_cases h:a+345600<=n
 .rw[decide_eq_true h,if_pos h];rfl
 rw[decide_eq_false h,if_neg h];rfl
def badR(v:Int):Bool:=decide (v < 1) || decide (4 < v)
def latR(v:Int):Bool:=v==2 || v==4
def finV(again:Bool)(v:Int):Int:=if latR v then (if again then 0 else 3) else v
def resK(again:Bool)(T:List zga)(kv:Int × Int):List zga:=match T[kv.1.toNat]? with
 | some w=>T.set kv.1.toNat ⟨w.Recipient,finV again kv.2,false⟩
 | none=>T
def resS(again:Bool)(id:Int)(s:List zla × List zga)(kv:Int × Int):List zla × List zga:=(if finV again kv.2 !=0 then s.1++ [⟨id,kv.1,finV again kv.2⟩] else s.1,resK again s.2 kv)
theorem Vla(again:Bool)(T:List zga)(kv:Int × Int):(resK again T kv).length=T.length:=by unfold resK;split <;> simp
theorem latB(v:Int):((bif (v==2) then some true else some ((v==4))):Option Bool)=some (latR v):=by unfold latR;cases v==2 <;> rfl
theorem badB(v:Int):((bif decide (v < 1) then some true else some (decide (4 < v))):Option Bool)=some (badR v):=by unfold badR;cases decide (v < 1) <;> rfl
theorem zsb{α:Type}(P:α->Bool)(l:List α):decide (0<=(kCa (fun i x=>if P x then some ((i:Nat):Int) else none) 0 l).getD (-1))=l.any P:=by
 cases hf:kCa (fun i x=>if P x then some ((i:Nat):Int) else none) 0 l with
 | none=>
  rw[q3a]at hf;have:l.any P=false:=by
   rw[jCr];intro x hx hP;obtain ⟨i,hi⟩:=List.mem_iff_getElem?.1 hx;have:=hf i x hi;simp[hP]at this
  rw[this];rfl
 | some z=>
  obtain ⟨i,x,h1,h2⟩:=Kea hf;cases hP:P x with
  | false=>simp[hP]at h2
  | true=>
   simp[hP]at h2;have:l.any P=true:=List.any_eq_true.2 ⟨x,jAe h1,hP⟩;rw[this];exact decide_eq_true (by simp;omega)
theorem ztb{a:zwa}{rs:List Int}{f:zsa}{L:List zca}{n m:Nat}{e e1:zca}{again:Bool}{j3:Int × Int × Int}{j60:Bool × List zca}{j63:Int × List zca}{b:List zca × Nat}
 (hn:n < L.length) (hm:n < b.2) (hl:a.To.length<=1048576) (hrl:rs.length=a.To.length) (hbad:∀v∈rs,badR v=false) (hid:e1.Id=a.Entry) (h3:j3.1=(n:Int)) (h60:rs.any latR=true->j60.1=again) (h63:rs.any latR=true->j63.1=if again then 0 else 3)
 {body:Int × List zla × List zca->Option (Step (Int × List zla × List zca) (List zla × List zca))} (hb:body=qXa a rs ((n:Int),f) b j60∨body=yUa a rs j3 b j63):
 ∀(r p rr pp:List Int) (last:Int) (out:List zla) (T:List zga),a.To=p++r->rs=pp++rr->p.length=pp.length-> -1<=last->toR e a.Domain true p.length last r=none->T.length=e.To.length->(∀j:Nat,last < (j:Int)->T[j]? =e.To[j]?)->out.length<=p.length->
  iter body ((p.length:Int),out,L.set n (wTo e1 T))=some (((r.zip rr).foldl (resS again a.Entry) (out,T)).1,L.set n (wTo e1 ((r.zip rr).foldl (resS again a.Entry) (out,T)).2)):=by
 have hnown:nown b.2 (n:Int)=some true:=by unfold nown;rw[if_pos (by simpa using hm)]
 intro r;induction r with
 | nil=>
  intro p rr pp last out T hp hpp hpl hla ht hT hj ho;have hp' :a.To=p:=by simpa using hp
  refine zUa ?_;rcases hb with rfl | rfl
  .unfold qXa;dsimp only;rw[<-hp',z5a];rfl
  unfold yUa;dsimp only;rw[<-hp',z5a];rfl
 | cons k r ih=>
  intro p rr pp last out T hp hpp hpl hla ht hT hj ho;have hx:a.To[p.length]? =some k:=by rw[hp];simp
  have hlt:=z4a hx;obtain ⟨v,rr',rfl⟩:∃v rr',rr=v::rr' :=by
   cases rr with
   | nil=>exfalso;rw[hp,hpp]at hrl;simp at hrl;omega
   | cons v rr' =>exact ⟨v,rr',rfl⟩
  have hv:rs[p.length]? =some v:=by rw[hpp,hpl];simp
  have hvb:=hbad v (jAe hv);have ht0:=ht;obtain ⟨k0,k1,w,w1,w2,w3,w4⟩:=Jla _ _ _ _ _ _ hla ht k (by simp);obtain ⟨kn,rfl⟩:∃kn:Nat,k=(kn:Int):=⟨k.toNat,by omega⟩;simp only[jBe]at w1;have hkT:T[kn]? =some w:=by rw[hj kn k0,w1]
  have hkl:=z4a hkT;have htr:toR e a.Domain true (p.length+1) (kn:Int) r=none:=by
   unfold toR at ht;split at ht
   .cases ht
   simp only[jBe,w1]at ht;split at ht
   .cases ht
   split at ht
   .cases ht
   exact ht
  have hres:resK again T ((kn:Int),v)=T.set kn ⟨w.Recipient,finV again v,false⟩:=by unfold resK;simp only[jBe,hkT]
  have hvl:latR v=true->rs.any latR=true:=fun h=>List.any_eq_true.2 ⟨v,jAe hv,h⟩
  have hw:idx T (kn:Int)=some w:=zFa hkT;have happ:app 5864062014805 out ([⟨a.Entry,(kn:Int),finV again v⟩]:List zla)=some (out++ [⟨a.Entry,(kn:Int),finV again v⟩]):=vxa (by simp;omega);have hw2:∀x:zga,idx (T.set kn x) (kn:Int)=some x:=fun x=>zFa (by simp[hkl])
  have hmk:∀T' :List zga,zca.mk (wTo e1 T).Id (wTo e1 T).Mail (wTo e1 T).Since (wTo e1 T).Tries (wTo e1 T).Due T' =wTo e1 T' :=fun _=>rfl
  have hmk2:∀T'' T' :List zga,zca.mk (wTo e1 T'').Id (wTo e1 T'').Mail (wTo e1 T'').Since (wTo e1 T'').Tries (wTo e1 T'').Due T' =wTo e1 T' :=fun _ _=>rfl
  have hto:∀T' :List zga,(wTo e1 T').To=T' :=fun _=>rfl
  have hids:∀T' :List zga,(wTo e1 T').Id=a.Entry:=fun _=>hid
  have hfin0:latR v=true->again=true->finV again v=0:=fun h1 h2=>by unfold finV;rw[if_pos h1,if_pos h2]
  have hc:body ((p.length:Int),out,L.set n (wTo e1 T))=some (.cont (((p.length+1:Nat):Int),(resS again a.Entry (out,T) ((kn:Int),v)).1,L.set n (wTo e1 (resS again a.Entry (out,T) ((kn:Int),v)).2))):=by
   show body ((p.length:Int),out,L.set n (wTo e1 T))=some (Step.cont (((p.length+1:Nat):Int),(if finV again v !=0 then out++ [⟨a.Entry,(kn:Int),finV again v⟩] else out),L.set n (wTo e1 (resK again T ((kn:Int),v)))));rw[hres];rcases hb with rfl | rfl
   .unfold qXa;dsimp only;rw[kta hx,zFa hx,zFa hv];simp only[cond_true,jAb,hnown,Zoa hn,hw,jBe,latB,hmk2,hto,jDu,hw2,sc _ (show p.length < 9223372036854775807 by omega)];cases hlv:latR v with
    | true=>
     rw[h60 (hvl hlv)];cases ha:again with
     | true=>
      have:finV true v=0:=by rw[<-ha];exact hfin0 hlv ha
      rw[this];simp only[cond_true,jAb];have hww:(⟨w.Recipient,w.Result,false⟩:zga)=⟨w.Recipient,0,false⟩:=by rw[w3]
      rw[hww];rfl
     | false=>
      have hf:finV false v=3:=by unfold finV;rw[if_pos hlv];rfl
      rw[ha,hf]at happ;rw[hf];simp only[cond_true,cond_false,jAb,Zoa hn,hto,hw2,hids,jDu,hmk2,happ];rfl
    | false=>
     have hf:finV again v=v:=by unfold finV;rw[hlv];rfl
     rw[hf]at happ;have hv0:(v !=0)=true:=by
      unfold badR at hvb;simp at hvb ⊢;omega
     rw[hf,hv0];simp only[cond_false,jAb,Zoa hn,hto,hw2,hids,jDu,hmk2,happ,if_true]
   unfold yUa;dsimp only;rw[kta hx,zFa hx,zFa hv,h3];have hj95:((bif latR v then some j63.1 else some v):Option Int)=some (finV again v):=by
    unfold finV;cases hlv:latR v with
    | true=>rw[h63 (hvl hlv)];rfl
    | false=>rfl
   simp only[cond_true,jAb,hnown,Zoa hn,hw,jBe,latB,hmk2,hto,jDu,hw2,hj95,sc _ (show p.length < 9223372036854775807 by omega)];simp only[happ,hw2,jAb];cases finV again v !=0 <;> rfl
  rw[z3a hc];have:=ih (p++ [(kn:Int)]) rr' (pp++ [v]) (kn:Int) (resS again a.Entry (out,T) ((kn:Int),v)).1 (resS again a.Entry (out,T) ((kn:Int),v)).2 (by simp[hp]) (by simp[hpp]) (by simp[hpl]) (by omega) (by simpa using htr) (by
   show (resK again T ((kn:Int),v)).length=_;rw[Vla,hT]) (fun j hjj=>by
   show (resK again T ((kn:Int),v))[j]? =_;rw[hres,jBp (by omega)];exact hj j (by omega)) (by
   show (if finV again v !=0 then out++ [⟨a.Entry,(kn:Int),finV again v⟩] else out).length<=_;split <;> simp <;> omega)
  simpa using this
def noMl(m:kha):Bool:=m.Envelope.From==[] && m.Envelope.Id==[] && decide (m.Envelope.To.length=0) && decide (m.Message.Fields.length=0) && decide (m.Message.Body.length=0)
def zub(r:zfa):Bool:=r.Attempt.Entry==0 && r.Attempt.Domain==[] && decide (r.Attempt.To.length=0) && decide (r.Results.length=0)
def attL:Int->List Int->Bool
 | _,[]=>true
 | last,k::r=>decide (last < k) && decide (k<=59) && attL k r
def wlb(r:zfa):zsa:=
 if decide (r.Attempt.Entry < 0) || decide (1000000 < r.Attempt.Entry) then ⟨3, -3⟩ else if !domP r.Attempt.Domain then ⟨10, -4⟩ else if decide (r.Attempt.To.length < 1) || decide (60 < r.Attempt.To.length) then ⟨2, -4⟩ else
 if !attL (-1) r.Attempt.To then ⟨3, -4⟩ else if r.Results.length≠r.Attempt.To.length then ⟨9, -5⟩ else if r.Results.any badR then ⟨3, -5⟩ else ⟨0,0⟩
def rcdF(r:zfa):zsa:=if r.Kind !=1 && r.Kind !=2 then ⟨4, -2⟩ else if !jja r.Now then ⟨3, -7⟩ else if (if r.Kind==2 then !noMl r.Mail else !zub r) then ⟨5, -8⟩ else
 if r.Kind==2 then wlb r else if (jLa r.Mail).Code !=0 then ⟨(jLa r.Mail).Code, -6⟩ else ⟨0,0⟩
theorem z2(a b:Nat)(h:a+b<=9223372036854775807):((w64 ((a:Int)+(b:Int)))==0)=(decide (a=0) && decide (b=0)):=by
 rw[zcb a b h,jAz];simp only[beq_iff_eq,jAs,decide_eq_true_eq];omega
theorem Wca(m:kha)(h:vya m):wSa m=some (noMl m):=by
 obtain ⟨t1,_⟩:=yta h;obtain ⟨f1,_⟩:=jla h;have h5:=h.2.2;unfold wSa noMl;rw[zcb _ _ (by omega),z2 _ _ (by omega)];have e:decide (m.Envelope.To.length+m.Message.Fields.length=0)=(decide (m.Envelope.To.length=0) && decide (m.Message.Fields.length=0)):=by
  rw[jAz];simp only[jAs,decide_eq_true_eq];omega
 rw[e];cases m.Envelope.From==[] <;> cases m.Envelope.Id==[] <;> rfl
theorem Wda(r:zfa)(h:kqa r):wTa r=some (if r.Kind==2 then noMl r.Mail else zub r):=by
 unfold wTa;cases r.Kind==2 with
 | true=>simp only[cond_true,if_true];rw[Wca _ h.mail];rfl
 | false=>
  simp only[cond_false,jAj,if_false];have:=h.to;have:=h.res;rw[z2 _ _ (by omega)];unfold zub;cases r.Attempt.Entry==0 <;> cases r.Attempt.Domain==[] <;> rfl
theorem done_l1(r:zfa)(hl:r.Attempt.To.length<=1048576):iter (qYa r) 0=some (if attL (-1) r.Attempt.To then .inl () else .inr ⟨3, -4⟩):=by
 have key:∀(ks p:List Int) (last:Int),r.Attempt.To=p++ks->(p=[]/\last= -1∨0<=last/\∃p',p=p' ++ [last])->
  iter (qYa r) (p.length:Int)=some (if attL last ks then .inl () else .inr ⟨3, -4⟩):=by
  intro ks;induction ks with
  | nil=>
   intro p last hp hc;have hp' :r.Attempt.To=p:=by simpa using hp
   refine zUa ?_;unfold qYa;rw[<-hp',z5a];rfl
  | cons k ks ih=>
   intro p last hp hc;have hx:r.Attempt.To[p.length]? =some k:=by rw[hp];simp
   have hlt:=z4a hx;have hcond:((bif decide (k < 0) then some true else (bif decide (60<=k) then some true else (bif decide (0 < (p.length:Int)) then (idx r.Attempt.To ((w64 ((p.length:Int) - 1)))).bind fun v28=>some (decide (k<=v28)) else some false))):Option Bool)=some (!(decide (last < k) && decide (k<=59))):=by
    rcases hc with ⟨rfl,rfl⟩ | ⟨hl0,p',rfl⟩
    .have e1:decide (k < 0)= !decide (-1 < k):=by rw[jAz];simp;omega
     have e2:decide (60<=k)= !decide (k<=59):=by rw[jAz];simp;omega
     rw[e1,e2];simp only[jCx];cases decide (-1 < k) <;> cases decide (k<=59) <;> rfl
    have h1:decide (0 < (((p' ++ [last]).length:Nat):Int))=true:=decide_eq_true (by rw[jAg,jDg];omega);have h2:idx r.Attempt.To ((w64 (((p' ++ [last]).length:Int) - 1)))=some last:=by
     rw[show (((p' ++ [last]).length:Int) - 1)=(p'.length:Int) by simp,qxb _ (by simp at hlt;omega)];rw[Qua,hp];simp
    rw[h1,h2];simp only[cond_true,jAb];have e2:decide (60<=k)= !decide (k<=59):=by rw[jAz];simp;omega
    have e3:decide (k<=last)= !decide (last < k):=by rw[jAz];simp
    rw[e2,e3];by_cases hk:k < 0
    .rw[decide_eq_true hk,decide_eq_false (show ¬last < k by omega)];rfl
    rw[decide_eq_false hk];cases decide (last < k) <;> cases decide (k<=59) <;> rfl
   have hb:qYa r (p.length:Int)=some (if !(decide (last < k) && decide (k<=59)) then .out (.inr ⟨3, -4⟩) else .cont ((p.length+1:Nat):Int)):=by
    unfold qYa;rw[kta hx,zFa hx];simp only[cond_true,jAb];rw[hcond];simp only[jAb,zNa,sc _ (show p.length < 9223372036854775807 by omega)];cases decide (last < k) && decide (k<=59) <;> rfl
   unfold attL;cases hq:decide (last < k) && decide (k<=59) with
   | false=>rw[hq]at hb;rw[zUa hb];rfl
   | true=>
    rw[hq]at hb;simp only[jBh,jAj,if_false,jDp]at hb ⊢;rw[z3a hb];simp at hq;have hlast: -1<=last:=by rcases hc with ⟨_,rfl⟩ | ⟨h,_⟩ <;> omega
    have:=ih (p++ [k]) k (by simp[hp]) (.inr ⟨by omega,p,rfl⟩);simpa using this
 exact key r.Attempt.To [] (-1) rfl (.inl ⟨rfl,rfl⟩)
theorem Jpa(r:zfa)(h:kqa r):jca r=some (wlb r):=by
 have ht:=h.to;have hr:=h.res;have hd:=h.dom;unfold jca wlb;have e1:((bif decide (r.Attempt.Entry < 0) then some true else some (decide (1000000 < r.Attempt.Entry))):Option Bool)=some (decide (r.Attempt.Entry < 0) || decide (1000000 < r.Attempt.Entry)):=by cases decide (r.Attempt.Entry < 0) <;> rfl
 rw[e1];simp only[jAb,zNa];cases decide (r.Attempt.Entry < 0) || decide (1000000 < r.Attempt.Entry) with
 | true=>rfl
 | false=>
  simp only[cond_false,jAj,if_false];rw[yNa _ (by omega)];simp only[jAb];cases domP r.Attempt.Domain with
  | false=>rfl
  | true=>
   simp only[jBh,cond_false,jAj,if_false];have e2:((bif decide ((r.Attempt.To.length:Int) < 1) then some true else some (decide (60 < (r.Attempt.To.length:Int)))):Option Bool)=some (decide (r.Attempt.To.length < 1) || decide (60 < r.Attempt.To.length)):=by
    have a1:decide ((r.Attempt.To.length:Int) < 1)=decide (r.Attempt.To.length < 1):=by congr 1;apply propext;omega
    have a2:decide (60 < (r.Attempt.To.length:Int))=decide (60 < r.Attempt.To.length):=by congr 1;apply propext;omega
    rw[a1,a2];cases decide (r.Attempt.To.length < 1) <;> rfl
   rw[e2];simp only[jAb];cases decide (r.Attempt.To.length < 1) || decide (60 < r.Attempt.To.length) with
   | true=>rfl
   | false=>
    simp only[cond_false,jAj,if_false];rw[done_l1 r ht];cases attL (-1) r.Attempt.To with
    | false=>rfl
    | true=>
     simp only[if_true,jAb,Sum.elim_inl,jBh,jAj,if_false];by_cases hl:r.Results.length=r.Attempt.To.length
     .rw[show ((r.Results.length:Int) !=(r.Attempt.To.length:Int))=false by rw[hl];simp,if_neg (by simpa using hl)];simp only[cond_false];have hany:∃z:Int,((iter (wja r) 0).bind (Sum.elim (fun _=>some ((-1))) (fun b=>some b)):Option Int)=some z/\decide (0<=z)=r.Results.any badR:=by
       rw[kKa r.Results (fun i x=>if badR x then some ((i:Nat):Int) else none) (.inl ()) .inr]
       .refine ⟨_,?_,zsb badR r.Results⟩;simp only[jAb,Vja]
       .unfold wja;rw[z5a];rfl
       intro i x hx;have hi:=z4a hx;unfold wja;rw[kta hx,zFa hx];simp only[cond_true,jAb,sc i (by omega)];unfold badR;cases decide (x < 1) <;> cases decide (4 < x) <;> rfl
      obtain ⟨z,hz1,hz2⟩:=hany;first
       | rw[hz1]
       | (simp only[hz1])
      simp only[jAb,hz2,kEa];cases r.Results.any badR <;> rfl
     rw[show ((r.Results.length:Int) !=(r.Attempt.To.length:Int))=true by simp;omega,if_pos hl];rfl
theorem yWa(r:zfa)(h:kqa r):vva r=some (rcdF r):=by
 unfold vva rcdF;have e1:((bif (r.Kind !=1) then some ((r.Kind !=2)) else some false):Option Bool)=some (r.Kind !=1 && r.Kind !=2):=by cases r.Kind !=1 <;> rfl
 rw[e1];simp only[jAb,zNa,wra];cases r.Kind !=1 && r.Kind !=2 with
 | true=>rfl
 | false=>
  simp only[cond_false,jAj,if_false];show (bif !jja r.Now then _ else _)=_;cases jja r.Now with
  | false=>rfl
  | true=>
   simp only[jBh,cond_false,jAj,if_false];rw[Wda r h];simp only[jAb];have e2:(!(if r.Kind==2 then noMl r.Mail else zub r))=(if r.Kind==2 then !noMl r.Mail else !zub r):=by cases r.Kind==2 <;> rfl
   rw[e2];cases (if r.Kind==2 then !noMl r.Mail else !zub r) with
   | true=>rfl
   | false=>
    simp only[cond_false,jAj,if_false];cases r.Kind==2 with
    | true=>
     simp only[cond_true,if_true];rw[Jpa r h];rfl
    | false=>
     simp only[cond_false,jAj,if_false];rw[wDa _ h.mail.1 h.mail.2];simp only[jAb,z6a,kEa];cases (jLa r.Mail).Code !=0 <;> rfl
def lpL{α:Type}(item:Lft->α × Lft):Nat->Lft->List α × Lft
 | 0,s=>([],s)
 | _+1,none=>([],none)
 | n+1,some b=>((item (some b)).1::(lpL item n (item (some b)).2).1,(lpL item n (item (some b)).2).2)
theorem lpL_succ{α:Type}(item:Lft->α × Lft)(n:Nat)(b:List UInt8):lpL item (n+1) (some b)=((item (some b)).1::(lpL item n (item (some b)).2).1,(lpL item n (item (some b)).2).2):=rfl
def lpR(s:Lft):zba × Lft:=(⟨(pT s).1,(pN (pT s).2).1⟩,(pN (pT s).2).2)
def lpF(s:Lft):zka × Lft:=(⟨(pT s).1,(pT (pT s).2).1⟩,(pT (pT s).2).2)
structure Yoa {α:Type} (item:Lft->α × Lft) (enc:α->List UInt8):Prop where
 bad:(item none).2=none
 inv:∀s x b,item s=(x,some b)->∃b0,s=some b0/\b0=enc x++b/\8<=(enc x).length
theorem wmb:Yoa pN num8:=⟨rfl,fun s x b h=>by
 obtain ⟨b0,h1,_,_,h4⟩:=Yea h;exact ⟨b0,h1,h4,by rw[zLa];omega⟩⟩
theorem item_R:Yoa lpR spR:=⟨rfl,fun s x b h=>by
 unfold lpR at h;cases h2:(pN (pT s).2).2 with
 | none=>rw[h2]at h;cases h
 | some b2=>
  rw[h2]at h;cases h;obtain ⟨b1,e1,_,_,e4⟩:=Yea (s:=(pT s).2) (n:=(pN (pT s).2).1) (b:=b) (by rw[<-h2]);obtain ⟨b0,f1,_,f3⟩:=Yfa (s:=s) (t:=(pT s).1) (b:=b1) (by rw[<-e1]);exact ⟨b0,f1,by rw[f3,e4];simp[spR],by unfold spR;rw[jAg,kDa];omega⟩⟩
theorem item_F:Yoa lpF spF:=⟨rfl,fun s x b h=>by
 unfold lpF at h;cases h2:(pT (pT s).2).2 with
 | none=>rw[h2]at h;cases h
 | some b2=>
  rw[h2]at h;cases h;obtain ⟨b1,e1,_,e4⟩:=Yfa (s:=(pT s).2) (t:=(pT (pT s).2).1) (b:=b) (by rw[<-h2]);obtain ⟨b0,f1,_,f3⟩:=Yfa (s:=s) (t:=(pT s).1) (b:=b1) (by rw[<-e1]);exact ⟨b0,f1,by rw[f3,e4];simp[spF],by unfold spF;rw[jAg,kDa];omega⟩⟩
theorem Wea{α:Type}{item:Lft->α × Lft}{enc:α->List UInt8}:∀(l:List α) (b:List UInt8),(∀x∈l,∀b,item (some (enc x++b))=(x,some b))->lpL item l.length (some (l.flatMap enc++b))=(l,some b)
 | [],b,_=>rfl
 | x::l,b,h=>by
  rw[jCy,jAp,jCl];unfold lpL;rw[h x (by simp)];dsimp only;rw[Wea l b (fun y hy=>h y (by simp[hy]))]
theorem wnb{α:Type}{item:Lft->α × Lft}{enc:α->List UInt8}(h:Yoa item enc):∀(n:Nat) (s:Lft) (B:Nat),(∀b,s=some b->b.length<=B)->(lpL item n s).1.length * 8<=B+8
 | 0,s,B,_=>by simp[lpL]
 | n+1,none,B,_=>by simp[lpL]
 | n+1,some b,B,hb=>by
  have hbB:=hb b rfl;unfold lpL;dsimp only;rw[jCl];cases hi:(item (some b)).2 with
  | none=>
   have:(lpL item n none).1.length=0:=by cases n <;> rfl
   rw[this];omega
  | some b1=>
   obtain ⟨b0,f1,f2,f3⟩:=h.inv (some b) (item (some b)).1 b1 (by rw[<-hi]);cases f1;have hl:b.length=(enc (item (some b)).1).length+b1.length:=by rw[<-jAg,<-f2]
   have:=wnb h n (some b1) (B - 8) (fun b' hb' =>by cases hb';omega);omega
theorem wVa{α:Type}{item:Lft->α × Lft}(h:∀s,qma s->qma (item s).2):∀(n:Nat) (s:Lft),qma s->qma (lpL item n s).2
 | 0,s,hs=>hs
 | n+1,none,hs=>fun b hb=>by cases hb
 | n+1,some b,hs=>wVa h n _ (h _ hs)
theorem QBa{α:Type}{item:Lft->α × Lft}{P:α->Prop}(h:∀s,qma s->qma (item s).2/\P (item s).1):∀(n:Nat) (s:Lft),qma s->∀x∈(lpL item n s).1,P x
 | 0,s,hs,x,hx=>by cases hx
 | n+1,none,hs,x,hx=>by cases hx
 | n+1,some b,hs,x,hx=>by
  rcases jCd.1 hx with rfl | hx
  .exact (h _ hs).2
  exact QBa h n _ (h _ hs).1 x hx
theorem ktb{α:Type}{item:Lft->α × Lft}{enc:α->List UInt8}(hi:Yoa item enc)(n:Int)(hn:n<=9223372036854775807){body:Int × zha × List α->Option (Step (Int × zha × List α) (zha × List α))}
 (h1:∀(i:Nat) b out,(i:Int) < n->out.length<=1048576->b.length<=1048576->body ((i:Int),rdr (some b),out)=some (.cont (((i+1:Nat):Int),rdr (item (some b)).2,out++ [(item (some b)).1])))
 (h2:∀(i:Nat) s out,¬((i:Int) < n/\s≠none)->body ((i:Int),rdr s,out)=some (.out (rdr s,out))):
 ∀(k i:Nat) (s:Lft) (out:List α),k=(n - (i:Int)).toNat->(∀b,s=some b->out.length * 8+b.length<=1048576)->
  iter body ((i:Int),rdr s,out)=some (rdr (lpL item k s).2,out++(lpL item k s).1):=by
 intro k;induction k with
 | zero=>
  intro i s out hk hs;rw[zUa (h2 i s out (by omega))];simp[lpL]
 | succ k ih=>
  intro i s out hk hs;cases s with
  | none=>
   rw[zUa (h2 i none out (by simp))];simp[lpL]
  | some b=>
   have hb:=hs b rfl;rw[z3a (h1 i b out (by omega) (by omega) (by omega))];have:=ih (i+1) (item (some b)).2 (out++ [(item (some b)).1]) (by omega) (fun b1 hb1=>by
    obtain ⟨b0,f1,f2,f3⟩:=hi.inv (some b) (item (some b)).1 b1 (by rw[<-hb1]);cases f1;have hl:b.length=(enc (item (some b)).1).length+b1.length:=by rw[<-jAg,<-f2]
    simp only[jAg,jDg];omega)
   rw[this,lpL_succ];simp
theorem ZFa(i n:Int)(s:Lft):((bif decide (i < n) then some (!(rdr s).bad) else some false):Option Bool)=some (decide (i < n/\s≠none)):=by
 cases s with
 | none=>simp[rdr]
 | some b=>by_cases h:i < n <;> simp[rdr,h]
theorem read_l1(v9:Int × zha)(hn:v9.1<=9223372036854775807)(s:Lft)(hs:qma s):iter (qZa v9) (0,rdr s,([]:List zba))=some (rdr (lpL lpR v9.1.toNat s).2,(lpL lpR v9.1.toNat s).1):=by
 have:=ktb item_R v9.1 hn (body:=qZa v9) (fun i b out hi ho hb=>by
  have hsb:qma (some b):=fun b' h' =>by cases h';exact hb
  unfold qZa;dsimp only;rw[ZFa,decide_eq_true (show (i:Int) < v9.1/\(some b:Lft)≠none from ⟨hi,by simp⟩)];simp only[jAb,cond_true];rw[kba _ hsb];simp only[jAb];rw[zHa _ (k5a hsb).1];simp only[jAb,sc i (by omega)];rw[vxa (by simp;omega)];rfl) (fun i s out hc=>by
  unfold qZa;dsimp only;rw[ZFa,decide_eq_false hc];rfl) (v9.1 - ((0:Nat):Int)).toNat 0 s [] rfl (fun b hb=>by have:=hs b hb;simp;omega)
 rw[show (v9.1 - ((0:Nat):Int)).toNat=v9.1.toNat by omega]at this;rw[show iter (qZa v9) (0,rdr s,([]:List zba))=_ from this];simp
theorem read_l2(v9:Int × zha)(hn:v9.1<=9223372036854775807)(s:Lft)(hs:qma s):iter (q0a v9) (0,rdr s,([]:List zka))=some (rdr (lpL lpF v9.1.toNat s).2,(lpL lpF v9.1.toNat s).1):=by
 have:=ktb item_F v9.1 hn (body:=q0a v9) (fun i b out hi ho hb=>by
  have hsb:qma (some b):=fun b' h' =>by cases h';exact hb
  unfold q0a;dsimp only;rw[ZFa,decide_eq_true (show (i:Int) < v9.1/\(some b:Lft)≠none from ⟨hi,by simp⟩)];simp only[jAb,cond_true];rw[kba _ hsb];simp only[jAb];rw[kba _ (k5a hsb).1];simp only[jAb,sc i (by omega)];rw[vxa (by simp;omega)];rfl) (fun i s out hc=>by
  unfold q0a;dsimp only;rw[ZFa,decide_eq_false hc];rfl) (v9.1 - ((0:Nat):Int)).toNat 0 s [] rfl (fun b hb=>by have:=hs b hb;simp;omega)
 rw[show (v9.1 - ((0:Nat):Int)).toNat=v9.1.toNat by omega]at this;rw[show iter (q0a v9) (0,rdr s,([]:List zka))=_ from this];simp
theorem wob(v9:Int × zha)(hn:v9.1<=9223372036854775807)(s:Lft)(hs:qma s):iter (q1a v9) (0,rdr s,([]:List Int))=some (rdr (lpL pN v9.1.toNat s).2,(lpL pN v9.1.toNat s).1):=by
 have:=ktb wmb v9.1 hn (body:=q1a v9) (fun i b out hi ho hb=>by
  have hsb:qma (some b):=fun b' h' =>by cases h';exact hb
  have hnum:=zHa (some b) hsb;unfold zCa at hnum;unfold q1a;dsimp only;rw[ZFa,decide_eq_true (show (i:Int) < v9.1/\(some b:Lft)≠none from ⟨hi,by simp⟩)];simp only[jAb,cond_true];rw[show ((bif decide (((rdr (some b)).b.length:Int) < 8) then some ((0,(zha.mk ([]) true))) else (iter (jIa ((i:Int),rdr (some b),out)) ((0,0))).bind fun b56=>(cut (rdr (some b)).b 8 (((rdr (some b)).b.length:Int))).bind fun v63=>some (((w64 b56),(zha.mk v63 (rdr (some b)).bad)))):Option (Int × zha))=_ from hnum];simp only[jAb,sc i (by omega)];rw[vxa (by simp;omega)];rfl) (fun i s out hc=>by
  unfold q1a;dsimp only;rw[ZFa,decide_eq_false hc];rfl) (v9.1 - ((0:Nat):Int)).toNat 0 s [] rfl (fun b hb=>by have:=hs b hb;simp;omega)
 rw[show (v9.1 - ((0:Nat):Int)).toNat=v9.1.toNat by omega]at this;rw[show iter (q1a v9) (0,rdr s,([]:List Int))=_ from this];simp
theorem read_l5(v9:Int × zha)(hn:v9.1<=9223372036854775807)(s:Lft)(hs:qma s):iter (jJa v9) (0,rdr s,([]:List Int))=some (rdr (lpL pN v9.1.toNat s).2,(lpL pN v9.1.toNat s).1):=wob v9 hn s hs
def zMl:kha:=⟨⟨[],[],[]⟩,⟨[],[]⟩⟩
def pMl(s:Lft):kha × Lft:=
 let f:=pT s;let c:=pN f.2;let to:=lpL lpR c.1.toNat c.2;let id:=pT to.2;let m:=pN id.2;let fs:=lpL lpF m.1.toNat m.2;let bd:=pT fs.2
 (⟨⟨f.1,to.1,id.1⟩,⟨fs.1,bd.1⟩⟩,bd.2)
def pAt(s:Lft):(zwa × List Int) × Lft:=
 let e:=pN s;let d:=pT e.2;let c:=pN d.2;let to:=lpL pN c.1.toNat c.2;let m:=pN to.2;let rs:=lpL pN m.1.toNat m.2
 ((⟨e.1,d.1,to.1⟩,rs.1),rs.2)
def lpK(k t:Int)(s:Lft):zfa × Lft:=if k==1 then (⟨k,t,(pMl s).1,⟨0,[],[]⟩,[]⟩,(pMl s).2) else (⟨k,t,zMl,(pAt s).1.1,(pAt s).1.2⟩,(pAt s).2)
def lpB(b:List UInt8):zfa × Lft:=lpK (pN (some b)).1 (pN (pN (some b)).2).1 (pN (pN (some b)).2).2
theorem Jqa(s:Lft):ok64 (pN s).1:=by
 cases s with
 | none=>show ok64 0;unfold ok64;omega
 | some b=>
  unfold pN;dsimp only;split
  .show ok64 0;unfold ok64;omega
  exact W9a _
theorem pN_hi(s:Lft):(pN s).1<=9223372036854775807:=by have:=Jqa s;unfold ok64 at this;omega
theorem KTa(s:Lft)(h:qma s):qma (lpR s).2/\(lpR s).1.Address.length<=1048576:=⟨kpa (k5a h).1,(k5a h).2⟩
theorem Wfa(s:Lft)(h:qma s):qma (lpF s).2/\((lpF s).1.Name.length<=1048576/\(lpF s).1.Value.length<=1048576):=⟨(k5a (k5a h).1).1,(k5a h).2,(k5a (k5a h).1).2⟩
theorem kUb{α:Type}{item:Lft->α × Lft}{enc:α->List UInt8}(h:Yoa item enc)(n:Nat)(s:Lft)(hs:qma s):(lpL item n s).1.length<=1048576:=by
 have:=wnb h n s 1048576 hs;omega
theorem wpb(s:Lft)(h:qma s):vya (pMl s).1:=by
 have a1:=k5a h;have a2:=kpa a1.1;have a3:=wVa (fun s hs=>(KTa s hs).1) (pN (pT s).2).1.toNat _ a2;have a4:=k5a a3;have a5:=kpa a4.1;have a6:=wVa (fun s hs=>(Wfa s hs).1) (pN (pT (lpL lpR (pN (pT s).2).1.toNat (pN (pT s).2).2).2).2).1.toNat _ a5;have a7:=k5a a6;exact ⟨⟨a1.2,a4.2,kUb item_R _ _ a2,QBa (P:=fun r:zba=>r.Address.length<=1048576) KTa _ _ a2⟩,⟨kUb item_F _ _ a5,QBa (P:=fun f:zka=>f.Name.length<=1048576/\f.Value.length<=1048576) Wfa _ _ a5⟩,a7.2⟩
theorem Wga:vya zMl:=⟨⟨by simp[zMl],by simp[zMl],by simp[zMl],fun r hr=>by simp[zMl]at hr⟩,⟨by simp[zMl],fun r hr=>by simp[zMl]at hr⟩,by simp[zMl]⟩
theorem wqb(s:Lft)(h:qma s):(pAt s).1.1.Domain.length<=1048576/\(pAt s).1.1.To.length<=1048576/\(pAt s).1.2.length<=1048576:=by
 have a1:=kpa h;have a2:=k5a a1;have a3:=kpa a2.1;have a4:=wVa (fun s hs=>kpa hs) (pN (pT (pN s).2).2).1.toNat _ a3;have a5:=kpa a4;exact ⟨a2.2,kUb wmb _ _ a3,kUb wmb _ _ a5⟩
theorem Wha(b:List UInt8)(h:b.length<=1048576):kqa (lpB b).1:=by
 have h0:qma (some b):=fun b' hb=>by cases hb;exact h
 have h1:=kpa (kpa h0);unfold lpB lpK;split
 .exact ⟨wpb _ h1,by simp,by simp,by simp⟩
 obtain ⟨a1,a2,a3⟩:=wqb _ h1;exact ⟨Wga,a1,a2,a3⟩
theorem KUa(b:List UInt8)(h:b.length<=1048576):jea b=some ((lpB b).1,decide ((lpB b).2=some []) && ((rcdF (lpB b).1).Code==0)):=by
 have hsm:=Wha b h;have h0:qma (some b):=fun b' hb=>by cases hb;exact h
 have h1:=kpa h0;have h2:=kpa h1;have key:∀(s:Lft) (r:zfa),kqa r->((bif (!(rdr s).bad) then (bif (((rdr s).b.length:Int)==0) then (vva r).bind fun v92=>(z0a v92).bind fun v94=>some ((!v94)) else some false) else some false):Option Bool)=some (decide (s=some []) && ((rcdF r).Code==0)):=by
  intro s r hr;rw[yWa r hr];cases s with
  | none=>rfl
  | some b=>
   cases b with
   | nil=>simp[rdr,z6a,bne]
   | cons c b=>
    have:(((rdr (some (c::b))).b.length:Int)==0)=false:=by
     rw[beq_eq_false_iff_ne];show (((c::b).length:Nat):Int)≠0;simp;omega
    rw[this];simp[rdr]
 unfold jea;rw[show (zha.mk b false)=rdr (some b) from rfl,zHa _ h0];simp only[jAb];rw[zHa _ h1];simp only[jAb];unfold lpB at hsm ⊢;generalize (pN (some b)).1=kk at hsm ⊢;generalize (pN (pN (some b)).2).1=tt at hsm ⊢;generalize (pN (pN (some b)).2).2=s at h2 hsm ⊢;unfold lpK at hsm ⊢;by_cases hk:kk=1
 .subst hk;rw[if_pos (by decide)]at hsm ⊢;simp only[beq_self_eq_true,cond_true];have a1:=k5a h2;have a2:=kpa a1.1;have a3:=wVa (fun s hs=>(KTa s hs).1) (pN (pT s).2).1.toNat _ a2;have a4:=k5a a3;have a5:=kpa a4.1;have a6:=wVa (fun s hs=>(Wfa s hs).1) (pN (pT (lpL lpR (pN (pT s).2).1.toNat (pN (pT s).2).2).2).2).1.toNat _ a5;rw[kba _ h2];simp only[jAb];rw[zHa _ a1.1];simp only[jAb];rw[read_l1 _ (pN_hi _) _ a2];simp only[jAb];rw[kba _ a3];simp only[jAb];rw[zHa _ a4.1];simp only[jAb];rw[read_l2 _ (pN_hi _) _ a5];simp only[jAb];rw[kba _ a6];simp only[jAb];have:=key (pMl s).2 _ hsm;unfold pMl at this hsm ⊢;dsimp only at this hsm ⊢;rw[this];rfl
 have hk' :(kk==1)=false:=beq_eq_false_iff_ne.2 hk;rw[if_neg (by simpa using hk)]at hsm ⊢;rw[hk'];simp only[cond_false];have a1:=kpa h2;have a2:=k5a a1;have a3:=kpa a2.1;have a4:=wVa (fun s hs=>kpa hs) (pN (pT (pN s).2).2).1.toNat _ a3;have a5:=kpa a4;rw[zHa _ h2];simp only[jAb];rw[kba _ a1];simp only[jAb];rw[zHa _ a2.1];simp only[jAb];rw[wob _ (pN_hi _) _ a3];simp only[jAb];rw[zHa _ a4];simp only[jAb];rw[read_l5 _ (pN_hi _) _ a5];simp only[jAb];have:=key (pAt s).2 _ hsm;unfold pAt zMl at this hsm ⊢;dsimp only at this hsm ⊢;rw[this];rfl
structure zvb (r:zfa):Prop where
 kind:ok64 r.Kind
 now:ok64 r.Now
 entry:ok64 r.Attempt.Entry
 notify:∀x∈r.Mail.Envelope.To,ok64 x.Notify
 to:∀x∈r.Attempt.To,ok64 x
 res:∀x∈r.Results,ok64 x
theorem kVb(n:Nat)(h:n<=1048576):ok64 (n:Int):=by unfold ok64;omega
theorem lpR_enc(r:zba)(h1:r.Address.length<=1048576)(h2:ok64 r.Notify)(b:List UInt8):lpR (some (spR r++b))=(r,some b):=by
 unfold lpR spR;rw[jAp,QRa _ h1];dsimp only;rw[jQa _ h2]
theorem lpF_enc(f:zka)(h1:f.Name.length<=1048576)(h2:f.Value.length<=1048576)(b:List UInt8):lpF (some (spF f++b))=(f,some b):=by
 unfold lpF spF;rw[jAp,QRa _ h1];dsimp only;rw[QRa _ h2]
theorem pMl_enc(m:kha)(h:vya m)(hn:∀x∈m.Envelope.To,ok64 x.Notify)(b:List UInt8):pMl (some (spM m++b))=(m,some b):=by
 obtain ⟨t1,t2⟩:=yta h;obtain ⟨f1,f2⟩:=jla h;have h3:=h.1.1;have h4:=h.1.2.1;have h5:=h.2.2;unfold pMl spM spRs spFs;simp only[jAp];rw[QRa _ h3];dsimp only;rw[jQa _ (kVb _ t1)];dsimp only;rw[jBe,Wea _ _ (fun x hx b=>lpR_enc x (t2 x hx) (hn x hx) b)];dsimp only;rw[QRa _ h4];dsimp only;rw[jQa _ (kVb _ f1)];dsimp only;rw[jBe,Wea _ _ (fun x hx b=>lpF_enc x (f2 x hx).1 (f2 x hx).2 b)];dsimp only;rw[QRa _ h5]
theorem pAt_enc(r:zfa)(h:kqa r)(ho:zvb r)(b:List UInt8):pAt (some (spA r++b))=((r.Attempt,r.Results),some b):=by
 unfold pAt spA zgb;simp only[jAp];rw[jQa _ ho.entry];dsimp only;rw[QRa _ h.dom];dsimp only;rw[jQa _ (kVb _ h.to)];dsimp only;rw[jBe,Wea _ _ (fun x hx b=>jQa x (ho.to x hx) b)];dsimp only;rw[jQa _ (kVb _ h.res)];dsimp only;rw[jBe,Wea _ _ (fun x hx b=>jQa x (ho.res x hx) b)]
theorem rcd_nf{r:zfa}(h:(rcdF r).Code=0):(r.Kind=1/\r.Attempt=⟨0,[],[]⟩/\r.Results=[]/\(jLa r.Mail).Code=0)∨(r.Kind=2/\r.Mail=zMl/\(wlb r).Code=0):=by
 unfold rcdF at h;by_cases h1:(r.Kind !=1 && r.Kind !=2)=true
 .rw[if_pos h1]at h;simp at h
 rw[if_neg h1]at h;by_cases h2:(!jja r.Now)=true
 .rw[if_pos h2]at h;simp at h
 rw[if_neg h2]at h;by_cases hk:r.Kind=2
 .have hk' :(r.Kind==2)=true:=by simpa using hk
  rw[hk']at h;simp only[if_true]at h;right;cases h3:noMl r.Mail with
  | false=>rw[h3]at h;simp at h
  | true=>
   rw[h3]at h;simp only[jBh,jAj,if_false]at h;refine ⟨hk,?_,h⟩;unfold noMl at h3;simp only[jAs,beq_iff_eq,decide_eq_true_eq,List.length_eq_zero_iff]at h3;obtain ⟨⟨⟨⟨a1,a2⟩,a3⟩,a4⟩,a5⟩:=h3;have:r.Mail=⟨⟨r.Mail.Envelope.From,r.Mail.Envelope.To,r.Mail.Envelope.Id⟩,⟨r.Mail.Message.Fields,r.Mail.Message.Body⟩⟩:=rfl;rw[this,a1,a2,a3,a4,a5];rfl
 have hk' :(r.Kind==2)=false:=beq_eq_false_iff_ne.2 hk;rw[hk']at h;simp only[jAj,if_false]at h;left;have hk1:r.Kind=1:=by
  simp at h1;by_cases h' :r.Kind=1
  .exact h'
  exact absurd (h1 h') hk
 cases h3:zub r with
 | false=>rw[h3]at h;simp at h
 | true=>
  rw[h3]at h;simp only[jBh,jAj,if_false]at h;unfold zub at h3;simp only[jAs,beq_iff_eq,decide_eq_true_eq,List.length_eq_zero_iff]at h3;obtain ⟨⟨⟨a1,a2⟩,a3⟩,a4⟩:=h3;refine ⟨hk1,?_,a4,?_⟩
  .have:r.Attempt=⟨r.Attempt.Entry,r.Attempt.Domain,r.Attempt.To⟩:=rfl;rw[this,a1,a2,a3]
  by_cases hm:(jLa r.Mail).Code=0
  .exact hm
  rw[if_pos (by simpa using hm)]at h;exact absurd h hm
theorem lpB_enc(r:zfa)(h:kqa r)(ho:zvb r)(hf:(rcdF r).Code=0):lpB (spB r)=(r,some []):=by
 unfold lpB spB;simp only[jAp];rw[jQa _ ho.kind];dsimp only;rw[jQa _ ho.now];dsimp only;unfold lpK;rcases rcd_nf hf with ⟨hk,ha,hr,_⟩ | ⟨hk,hm,_⟩
 .rw[hk];simp only[beq_self_eq_true,if_true];have:=pMl_enc r.Mail h.mail ho.notify [];rw[jCz]at this;rw[this,<-ha,<-hr,<-hk]
 rw[hk];simp only[show ((2:Int)==1)=false from rfl,jAj,if_false];have:=pAt_enc r h ho [];rw[jCz]at this;rw[this,<-hm,<-hk]
theorem ok64_0:ok64 0:=by unfold ok64;omega
theorem lpB_ok(b:List UInt8)(h:b.length<=1048576):zvb (lpB b).1:=by
 have h0:qma (some b):=fun b' hb=>by cases hb;exact h
 have h1:=kpa (kpa h0);unfold lpB lpK;split
 .refine ⟨Jqa _,Jqa _,ok64_0,?_,fun x hx=>(by cases hx),fun x hx=>(by cases hx)⟩;have a1:=k5a h1;have a2:=kpa a1.1;exact QBa (P:=fun r:zba=>ok64 r.Notify) (fun s hs=>⟨(KTa s hs).1,Jqa _⟩) _ _ a2
 have a1:=kpa h1;have a2:=k5a a1;have a3:=kpa a2.1;have a4:=wVa (fun s hs=>kpa hs) (pN (pT (pN (pN (pN (some b)).2).2).2).2).1.toNat _ a3;have a5:=kpa a4;exact ⟨Jqa _,Jqa _,Jqa _,fun x hx=>(by simp[zMl]at hx),QBa (P:=fun x:Int=>ok64 x) (fun s hs=>⟨kpa hs,Jqa _⟩) _ _ a3,QBa (P:=fun x:Int=>ok64 x) (fun s hs=>⟨kpa hs,Jqa _⟩) _ _ a5⟩
def accP(b:List UInt8):Option (zfa × Nat):=match (pN (pT (some b)).2).2 with
 | none=>none
 | some rest=>if decide ((lpB (pT (some b)).1).2=some []) && ((rcdF (lpB (pT (some b)).1).1).Code==0) && (spB (lpB (pT (some b)).1).1==(pT (some b)).1) && ((pN (pT (some b)).2).1==w64 (sumB (pT (some b)).1)) then some ((lpB (pT (some b)).1).1,b.length - rest.length) else none
def zRec:zfa:=⟨0,0,zMl,⟨0,[],[]⟩,[]⟩
theorem Jra{a b:Int}(ha:ok64 a)(hb:ok64 b)(h:num8 a=num8 b):a=b:=by
 rw[<-Qya a ha,h,Qya b hb]
theorem kWb{s t:Str}{x y:List UInt8}(hs:s.length<=35184372088832)(ht:t.length<=35184372088832)(h:encT s++x=encT t++y):s=t/\x=y:=by
 unfold encT at h;rw[jAp,jAp]at h;obtain ⟨h1,h2⟩:=List.append_inj h (by rw[zLa,zLa]);have h3:=Jra (by unfold ok64;omega) (by unfold ok64;omega) h1;exact List.append_inj h2 (by omega)
theorem Kha(r:zfa):(spE r).length=(spB r).length+16:=by
 unfold spE;rw[jAg,kDa,zLa];omega
theorem KVa(a b:List UInt8)(h:a.length<=9223372036854775807):qka a b=some (b.isPrefixOf a):=by
 unfold qka wAa;by_cases hl:b.length<=a.length
 .rw[decide_eq_true (show (b.length:Int)<=(a.length:Int) by omega),QOa hl];simp only[cond_true,jAb,Option.some.injEq];rw[jAz,beq_iff_eq,jCs,List.prefix_iff_eq_take];exact eq_comm
 rw[decide_eq_false (show ¬(b.length:Int)<=(a.length:Int) by omega)];simp only[cond_false,jAb,Option.some.injEq]
 symm
 rw[Bool.eq_false_iff];intro hc;rw[jCs]at hc;exact hl hc.length_le
theorem pre_eq{b body rest:List UInt8}{sm:Int}(r:zfa)(hb:b=encT body++(num8 sm++rest))(ho:ok64 sm)(hl:body.length<=1048576)(hr:(spB r).length<=17592186044416):(spE r).isPrefixOf b=((spB r==body) && (sm==w64 (sumB body))):=by
 rw[jAz,jCs,jAs,beq_iff_eq,beq_iff_eq];constructor
 .rintro ⟨t,ht⟩;rw[hb]at ht;unfold spE at ht;rw[jAp]at ht;obtain ⟨h1,h2⟩:=kWb (by omega) (by omega) ht;obtain ⟨h3,_⟩:=List.append_inj h2 (by rw[zLa,zLa]);exact ⟨h1,by rw[<-h1];exact (Jra (W9a _) ho h3).symm⟩
 rintro ⟨h1,h2⟩;refine ⟨rest,?_⟩;unfold spE;rw[hb,h1,h2];simp
theorem Wia{b:List UInt8}{r:zfa}{n:Nat}(hl:b.length<=1048576)(h:accP b=some (r,n)):kqa r/\zvb r/\(rcdF r).Code=0/\(∃rest,b=spE r++rest)/\n=(spE r).length:=by
 have h0:qma (some b):=fun b' hb=>by cases hb;exact hl
 have hT:=k5a h0;unfold accP at h;cases hrest:(pN (pT (some b)).2).2 with
 | none=>rw[hrest]at h;cases h
 | some rest=>
  rw[hrest]at h;dsimp only at h;split at h
  .rename_i hc;cases h;simp only[jAs,decide_eq_true_eq,beq_iff_eq]at hc;obtain ⟨⟨⟨c1,c2⟩,c3⟩,c4⟩:=hc;obtain ⟨b1,e1,e2,e5,e6⟩:=Yea (s:=(pT (some b)).2) (n:=(pN (pT (some b)).2).1) (b:=rest) (by rw[<-hrest]);obtain ⟨b0,e3,e4,e7⟩:=Yfa (s:=some b) (t:=(pT (some b)).1) (b:=b1) (by rw[<-e1]);cases e3;have hb:b=spE (lpB (pT (some b)).1).1++rest:=by
    unfold spE;rw[c3,<-c4,jAp,<-e6];exact e7
   refine ⟨Wha _ hT.2,lpB_ok _ hT.2,c2,⟨rest,hb⟩,?_⟩;have:=congrArg List.length hb;rw[jAg]at this;omega
  cases h
theorem kXb{r:zfa}(h:kqa r)(ho:zvb r)(hf:(rcdF r).Code=0)(hl:(spB r).length<=1048576)(rest:List UInt8):accP (spE r++rest)=some (r,(spE r).length):=by
 have e1:pT (some (spE r++rest))=(spB r,some (num8 (w64 (sumB (spB r)))++rest)):=by
  unfold spE;rw[jAp,QRa _ hl]
 have e2:=jQa (w64 (sumB (spB r))) (W9a _) rest;unfold accP;rw[e1];dsimp only;rw[e2];dsimp only;rw[lpB_enc r h ho hf];simp[hf]
def rdsN:Nat->List UInt8->List zfa × Nat
 | 0,_=>([],0)
 | k+1,b=>match accP b with
  | none=>([],0)
  | some (r,n)=>(r::(rdsN k (b.drop n)).1,n+(rdsN k (b.drop n)).2)
theorem KWa{k:Nat}{b:List UInt8}(h:accP b=none):rdsN k b=([],0):=by
 cases k with
 | zero=>rfl
 | succ k=>unfold rdsN;rw[h]
theorem KXa{k:Nat}{b:List UInt8}{r:zfa}{n:Nat}(h:accP b=some (r,n)):rdsN (k+1) b=(r::(rdsN k (b.drop n)).1,n+(rdsN k (b.drop n)).2):=by
 rw[show rdsN (k+1) b=(match accP b with | none=>([],0) | some (r,n)=>(r::(rdsN k (b.drop n)).1,n+(rdsN k (b.drop n)).2)) from rfl,h]
theorem zwb(a0:List UInt8)(hl:a0.length<=1048576)(at_:Nat)(hat:at_<=a0.length)(out:List zfa)(ho:out.length<=1000):q2a a0 ((at_:Int),(at_:Int),out)=some (match accP (a0.drop at_) with
 | none=>.out (.inl ((at_:Int),out))
 | some (r,n)=>if out.length+1=100 then .out (.inr (((at_+n:Nat):Int),out++ [r])) else .cont (((at_+n:Nat):Int),((at_+n:Nat):Int),out++ [r])):=by
 have hdl:(a0.drop at_).length<=1048576:=by rw[jCg];omega
 have h0:qma (some (a0.drop at_)):=fun b' hb=>by cases hb;exact hdl
 have hT:=k5a h0;have hcut:cut a0 (at_:Int) (a0.length:Int)=some (a0.drop at_):=V0a hat;cases hacc:accP (a0.drop at_) with
 | none=>
  unfold q2a;dsimp only;rw[hcut];simp only[jAb];rw[show (zha.mk (a0.drop at_) false)=rdr (some (a0.drop at_)) from rfl,kba _ h0];simp only[jAb];rw[zHa _ hT.1];simp only[jAb];cases hrest:(pN (pT (some (a0.drop at_))).2).2 with
  | none=>rfl
  | some rest=>
   simp only[show (rdr (some rest)).bad=false from rfl,cond_false];rw[KUa _ hT.2];simp only[jAb];have hsm:=Wha _ hT.2;rw[yua _ hsm];simp only[jAb];rw[KVa _ _ (by omega)];simp only[jAb];obtain ⟨b1,e1,e2,e5,e6⟩:=Yea (s:=(pT (some (a0.drop at_))).2) (n:=(pN (pT (some (a0.drop at_))).2).1) (b:=rest) (by rw[<-hrest]);obtain ⟨b0,e3,e4,e7⟩:=Yfa (s:=some (a0.drop at_)) (t:=(pT (some (a0.drop at_))).1) (b:=b1) (by rw[<-e1]);cases e3;rw[e6]at e7;have hpre:=pre_eq (lpB (pT (some (a0.drop at_))).1).1 e7 e5 hT.2 (Wba hsm);unfold accP at hacc;rw[hrest]at hacc;dsimp only at hacc;split at hacc
   .cases hacc
   rename_i hc;have:((bif (!(decide ((lpB (pT (some (a0.drop at_))).1).2=some []) && ((rcdF (lpB (pT (some (a0.drop at_))).1).1).Code==0))) then some true else some (!((spE (lpB (pT (some (a0.drop at_))).1).1).isPrefixOf (a0.drop at_)))):Option Bool)=some true:=by
    rw[hpre];rw[Bool.and_assoc,Bool.not_eq_true]at hc;cases h1:decide ((lpB (pT (some (a0.drop at_))).1).2=some []) && ((rcdF (lpB (pT (some (a0.drop at_))).1).1).Code==0) with
    | false=>rfl
    | true=>
     rw[h1,jDp]at hc;rw[hc];rfl
   rw[this];rfl
 | some rn=>
  obtain ⟨r,n⟩:=rn;obtain ⟨q1,q2,q3,⟨rest0,q4⟩,q5⟩:=Wia hdl hacc;unfold q2a;dsimp only;rw[hcut];simp only[jAb];rw[show (zha.mk (a0.drop at_) false)=rdr (some (a0.drop at_)) from rfl,kba _ h0];simp only[jAb];rw[zHa _ hT.1];simp only[jAb];unfold accP at hacc;cases hrest:(pN (pT (some (a0.drop at_))).2).2 with
  | none=>rw[hrest]at hacc;cases hacc
  | some rest=>
   rw[hrest]at hacc;dsimp only at hacc;split at hacc
   .rename_i hc;cases hacc;simp only[jAs]at hc;obtain ⟨⟨⟨c1,c2⟩,c3⟩,c4⟩:=hc;simp only[show (rdr (some rest)).bad=false from rfl,cond_false];rw[KUa _ hT.2];simp only[jAb];rw[yua _ q1];simp only[jAb,c1,c2,Bool.and_self,jBh,cond_false];rw[KVa _ _ (by omega)];have hpre:(spE (lpB (pT (some (a0.drop at_))).1).1).isPrefixOf (a0.drop at_)=true:=by
     rw[jCs];exact ⟨rest0,q4.symm⟩
    rw[hpre];simp only[jAb,jBh,cond_false];rw[vxa (by simp;omega)];simp only[jAb];have hlen:(spE (lpB (pT (some (a0.drop at_))).1).1).length<=1048576:=by
     have:=congrArg List.length q4;rw[jAg]at this;omega
    rw[zcb _ _ (by omega),<-q5];have e9:(((out++ [(lpB (pT (some (a0.drop at_))).1).1]).length:Int)==100)=decide (out.length+1=100):=by
     rw[jAg,jDg,jAz];simp;omega
    rw[e9];by_cases h100:out.length+1=100
    .rw[decide_eq_true h100,if_pos h100];rfl
    rw[decide_eq_false h100,if_neg h100];rfl
   cases hacc
theorem accP_le{b:List UInt8}{r:zfa}{n:Nat}(hl:b.length<=1048576)(h:accP b=some (r,n)):16<=n/\n<=b.length:=by
 obtain ⟨_,_,_,⟨rest,h1⟩,h2⟩:=Wia hl h;have:=congrArg List.length h1;rw[jAg]at this;have h3:=Kha r;omega
theorem wrb(a0:List UInt8)(hl:a0.length<=1048576):∀(k at_:Nat) (out:List zfa),at_<=a0.length->out.length+(k+1)=100->
 ∃z,iter (q2a a0) ((at_:Int),(at_:Int),out)=some z/\(z=.inl (((at_+(rdsN (k+1) (a0.drop at_)).2:Nat):Int),out++(rdsN (k+1) (a0.drop at_)).1)∨z=.inr (((at_+(rdsN (k+1) (a0.drop at_)).2:Nat):Int),out++(rdsN (k+1) (a0.drop at_)).1)):=by
 intro k;induction k with
 | zero=>
  intro at_ out hat ho;have hs:=zwb a0 hl at_ hat out (by omega);cases hacc:accP (a0.drop at_) with
  | none=>
   rw[hacc]at hs;refine ⟨_,zUa hs,.inl ?_⟩;rw[KWa hacc];simp
  | some rn=>
   obtain ⟨r,n⟩:=rn;rw[hacc]at hs;dsimp only at hs;rw[if_pos (by omega)]at hs;refine ⟨_,zUa hs,.inr ?_⟩;rw[KXa hacc];simp[rdsN]
 | succ k ih=>
  intro at_ out hat ho;have hs:=zwb a0 hl at_ hat out (by omega);cases hacc:accP (a0.drop at_) with
  | none=>
   rw[hacc]at hs;refine ⟨_,zUa hs,.inl ?_⟩;rw[KWa hacc];simp
  | some rn=>
   obtain ⟨r,n⟩:=rn;rw[hacc]at hs;dsimp only at hs;rw[if_neg (by omega)]at hs;have hn:=accP_le (by rw[jCg];omega) hacc;rw[jCg]at hn;rw[z3a hs];obtain ⟨z,hz1,hz2⟩:=ih (at_+n) (out++ [r]) (by omega) (by simp;omega);refine ⟨z,hz1,?_⟩;rw[KXa hacc,List.drop_drop];simpa[jBv]using hz2
def qOb(a0:List UInt8):List zfa × Int × zsa:=if 200000 < a0.length then ([],0,⟨1, -1⟩) else ((rdsN 100 a0).1,((rdsN 100 a0).2:Int),⟨0,0⟩)
theorem KYa(a0:List UInt8)(hl:a0.length<=1048576):wBa a0=some (qOb a0):=by
 unfold wBa qOb;by_cases hb:200000 < a0.length
 .rw[decide_eq_true (show (200000:Int) < (a0.length:Int) by omega),if_pos hb];rfl
 rw[decide_eq_false (show ¬(200000:Int) < (a0.length:Int) by omega),if_neg hb];simp only[cond_false,kEa];obtain ⟨z,hz1,hz2⟩:=wrb a0 hl 99 0 [] (by omega) rfl;rw[show iter (q2a a0) (0,0,([]:List zfa))=some z from hz1];simp only[List.drop_zero,jCc,jCo]at hz2;rcases hz2 with rfl | rfl <;> rfl
def w4a(e:zca):Int:=min (e.Tries+1) 1000000
def Zpa(e:zca)(rs:List Int)(now:Int):Bool:=if rs.any latR then (jUa e.Since (w4a e) now).2 else true
def vJa(e:zca)(rs:List Int)(now:Int):zca:=if rs.any latR then ⟨e.Id,e.Mail,e.Since,w4a e,if (jUa e.Since (w4a e) now).2 then max (jUa e.Since (w4a e) now).1 e.Due else e.Due,e.To⟩ else e
def resP(e:zca)(a:zwa)(rs:List Int)(now:Int):List zla × List zga:=(a.To.zip rs).foldl (resS (Zpa e rs now) a.Entry) ([],e.To)
def Q5a(e:zca):Bool:=e.To.any opnW
def noE:zca:=⟨0,⟨⟨[],[],[]⟩,⟨[],[]⟩⟩,0,0,0,[]⟩
def endP(q:zva)(a:zwa)(rs:List Int)(now:Int)(n:Nat)(e:zca):zva × List zla × zsa:=(⟨(q.Entries.set n (wTo (vJa e rs now) (resP e a rs now).2)).filter Q5a,q.Next⟩,(resP e a rs now).1,⟨0,0⟩)
def Q6a(q:zva)(a:zwa)(rs:List Int)(now:Int):zva × List zla × zsa:=
 if (queF q).Code !=0 then (⟨[],0⟩,[],queF q) else if (attP q a true).2.Code !=0 then (⟨[],0⟩,[],(attP q a true).2) else
 if rs.length≠a.To.length then (⟨[],0⟩,[],⟨9, -6⟩) else if rs.any badR then (⟨[],0⟩,[],⟨3, -6⟩) else if !jja now then (⟨[],0⟩,[],⟨3, -7⟩) else
 if now < ((q.Entries[(attP q a true).1.toNat]?).getD noE).Since then (⟨[],0⟩,[],⟨19, -7⟩) else endP q a rs now (attP q a true).1.toNat ((q.Entries[(attP q a true).1.toNat]?).getD noE)
def Wja(T:List zga)(M:List zba):Prop:=T.length=M.length/\∀(j:Nat) (w:zga) (r:zba),T[j]? =some w->M[j]? =some r->wBad w r=false
theorem zxb(T:List zga)(M:List zba):Wja T M↔(T.length=M.length/\((T.zip M).any fun p=>wBad p.1 p.2)=false):=by
 unfold Wja;refine and_congr Iff.rfl ?_;rw[jCr];constructor
 .rintro h ⟨w,r⟩ hx hb;obtain ⟨j,hj⟩:=List.mem_iff_getElem?.1 hx;rw[List.getElem?_zip_eq_some]at hj;rw[h j w r hj.1 hj.2]at hb;cases hb
 intro h j w r h1 h2;have:=h (w,r) (jAe (i:=j) (by rw[List.getElem?_zip_eq_some];exact ⟨h1,h2⟩));simpa using this
theorem qPb{again:Bool}{T:List zga}{M:List zba}{kv:Int × Int}(h:Wja T M)(hv:badR kv.2=false):Wja (resK again T kv) M:=by
 refine ⟨by rw[Vla];exact h.1,fun j w r h1 h2=>?_⟩;unfold resK at h1;split at h1
 .rename_i w0 hw0;by_cases hj:kv.1.toNat=j
  .subst hj;rw[jBm (z4a hw0)]at h1;cases h1;have:=h.2 _ w0 r hw0 h2;unfold wBad at this ⊢;simp only[Bool.or_eq_false_iff]at this;obtain ⟨⟨a1,a2⟩,a3⟩:=this;rw[a1];have:finV again kv.2=0∨finV again kv.2=1∨finV again kv.2=3:=by
    unfold badR at hv;simp at hv;unfold finV;cases hl:latR kv.2 with
    | true=>cases again <;> simp
    | false=>
     unfold latR at hl;simp at hl;simp only[jAj,if_false];omega
   rcases this with h | h | h <;> simp[h]
  rw[jBp hj]at h1;exact h.2 j w r h1 h2
 exact h.2 j w r h1 h2
theorem Ypa{again:Bool}{id:Int}{M:List zba}:∀(l:List (Int × Int)) (s:List zla × List zga),(∀kv∈l,badR kv.2=false)->Wja s.2 M->Wja (l.foldl (resS again id) s).2 M
 | [],s,_,h=>h
 | kv::l,s,hb,h=>Ypa l _ (fun x hx=>hb x (by simp[hx])) (qPb h (hb kv (by simp)))
theorem qQb{e:zca}(h:Wja e.To e.Mail.Envelope.To):Q4a e=Q5a e:=by
 unfold Q4a Q5a;rw[zxb]at h;rw[decide_eq_true h.1,h.2];rfl
theorem KZa{e:zca}(h:Q4a e=true):Wja e.To e.Mail.Envelope.To/\Q5a e=true:=by
 unfold Q4a at h;simp only[jAs,decide_eq_true_eq,jCb]at h;exact ⟨(zxb _ _).2 ⟨h.1.1,h.1.2⟩,h.2⟩
theorem Wka{α:Type}{L:List α}{n:Nat}(x:α)(hn:n < L.length):L.set n x=L.take n++x::L.drop (n+1):=by
 rw[List.set_eq_take_append_cons_drop,if_pos hn]
theorem qRb{L:List zca}{n:Nat}{x:zca}(hn:n < L.length)(h:∀e∈L,Q5a e=true):(L.set n x).filter Q5a=if Q5a x then L.set n x else L.take n++L.drop (n+1):=by
 rw[Wka x hn,List.filter_append,List.filter_cons,List.filter_eq_self.2 (fun e he=>h e (jCu he)),List.filter_eq_self.2 (fun e he=>h e (jDi he))];split <;> rfl
theorem wsb{L2:List zca}{n:Nat}{x:zca}(hn:n < L2.length)(hl:L2.length<=1048576)(hx:L2[n]? =some x)(hxl:x.To.length<=1048576)(hg:Wja x.To x.Mail.Envelope.To):((idx L2 (n:Int)).bind fun v137=>(qWa v137).bind fun v139=>(bif (!v139) then ((cut3 L2 (n:Int) ((w64 ((n:Int)+1))) ((L2.length:Int))).bind fun v143=>(bif ((n:Int)==(w64 ((n:Int)+1))) then some L2 else (cut L2 0 (n:Int)).bind fun v146=>(cut L2 ((w64 ((n:Int)+1))) (L2.length:Int)).bind fun v148=>(shft L2 (n:Int) ((w64 ((n:Int)+1)))).bind fun v150=>(VDa v150 (((((Int.toNat (n:Int))+(L2.length - (Int.toNat ((w64 ((n:Int)+1)))))):Nat):Int)) ((L2.length:Int))).bind fun v152=>some ((List.take ((Int.toNat (n:Int))+(L2.length - (Int.toNat ((w64 ((n:Int)+1)))))) ((clr0 v150 (Int.toNat (((((Int.toNat (n:Int))+(L2.length - (Int.toNat ((w64 ((n:Int)+1)))))):Nat):Int))) ((zca.mk 0 ((kha.mk ((zOa.mk (([]:Str)) ([]) (([]:Str)))) ((zIa.mk ([]) ([]))))) 0 0 0 ([])))))))):Option (List zca)).bind fun (j142:List zca)=>some j142 else some L2):Option (List zca))=some (if Q5a x then L2 else L2.take n++L2.drop (n+1)):=by
 rw[zFa hx];simp only[jAb];rw[jSa x hxl,qQb hg];simp only[jAb];cases Q5a x with
 | true=>rfl
 | false=>
  simp only[jDt,cond_true,jAj,if_false];rw[delAt_eq L2 n _ hn hl];rfl
theorem kYb(rs:List Int)(P:Int->Bool)(hl:rs.length<=1048576){body:Int->Option (Step Int (Unit ⊕ Int))}(hout:body (rs.length:Int)=some (.out (.inl ())))(hb:∀(i:Nat) (v:Int),rs[i]? =some v->body (i:Int)=some (if P v then .out (.inr (i:Int)) else .cont ((i+1:Nat):Int))):
 ∃z:Int,((iter body 0).bind (Sum.elim (fun _=>some ((-1))) (fun b=>some b)):Option Int)=some z/\decide (0<=z)=rs.any P:=by
 refine ⟨_,?_,zsb P rs⟩;rw[kKa rs (fun i x=>if P x then some ((i:Nat):Int) else none) (.inl ()) .inr]
 .simp only[jAb,Vja]
 .exact hout
 intro i x hx;rw[hb i x hx];cases P x <;> rfl
theorem any_bad(rs:List Int)(hl:rs.length<=1048576):∃z:Int,((iter (wha rs) 0).bind (Sum.elim (fun _=>some ((-1))) (fun b=>some b)):Option Int)=some z/\decide (0<=z)=rs.any badR:=
 kYb rs badR hl (by unfold wha;rw[z5a];rfl) (fun i v hv=>by
  have:=z4a hv;unfold wha;rw[kta hv,zFa hv];simp only[cond_true,jAb,badB,sc i (by omega)];cases badR v <;> rfl)
theorem any_late(rs:List Int)(hl:rs.length<=1048576):∃z:Int,((iter (wia rs) 0).bind (Sum.elim (fun _=>some ((-1))) (fun b=>some b)):Option Int)=some z/\decide (0<=z)=rs.any latR:=
 kYb rs latR hl (by unfold wia;rw[z5a];rfl) (fun i v hv=>by
  have:=z4a hv;unfold wia;rw[kta hv,zFa hv];simp only[cond_true,jAb,latB,sc i (by omega)];cases latR v <;> rfl)
theorem lateE_id(e:zca)(rs:List Int)(now:Int):(vJa e rs now).Id=e.Id:=by unfold vJa;split <;> rfl
theorem Yqa(e:zca)(rs:List Int)(now:Int):(vJa e rs now).Mail=e.Mail:=by unfold vJa;split <;> rfl
theorem kZb(e:zca)(rs:List Int)(now:Int):wTo (vJa e rs now) e.To=vJa e rs now:=by unfold vJa;split <;> rfl
theorem k0b(e:zca)(a:zwa)(rs:List Int)(now:Int):(resP e a rs now).2.length=e.To.length:=by
 unfold resP;have:∀(l:List (Int × Int)) (s:List zla × List zga),(l.foldl (resS (Zpa e rs now) a.Entry) s).2.length=s.2.length:=by
  intro l;induction l with
  | nil=>intro s;rfl
  | cons kv l ih=>intro s;rw[jDh,ih];exact Vla _ _ _
 rw[this]
theorem zip_bad{ks rs:List Int}(h:∀v∈rs,badR v=false):∀kv∈ks.zip rs,badR kv.2=false:=fun kv hkv=>h kv.2 (List.of_mem_zip hkv).2
theorem Jsa(q:zva)(a:zwa)(rs:List Int)(now:Int)(hq:ysa q)(hw:wYa q)(hl:a.To.length<=1048576)(hrs:rs.length<=1048576):jba q a rs now=some (Q6a q a rs now):=by
 unfold jba Q6a;rw[jTa q a true hq hw hl];simp only[jAb,z6a,zNa,kEa,wra];by_cases hc:(queF q).Code=0
 .obtain ⟨ok,hF⟩:=Waa hc;have h1:((queF q).Code !=0)=false:=by simp[hc]
  have hn:=ok.n;rw[h1];simp only[jAj,if_false];by_cases hca:(attP q a true).2.Code=0
  .obtain ⟨n,e,ha,he,hid,ht,t1,t2⟩:=Jma hca;have hne:=z4a he;have hem:=jAe he;obtain ⟨o1,o2,o3,o4,o5⟩:=ok.ent e hem;rw[ha];simp only[bne_self_eq_false,cond_false,jAj,if_false,jBe,he,jBt];by_cases hlen:rs.length=a.To.length
   .rw[show ((rs.length:Int) !=(a.To.length:Int))=false by rw[hlen];simp,if_neg (fun h=>h hlen)];simp only[cond_false];obtain ⟨z,hz,hzd⟩:=any_bad rs hrs;rw[hz];simp only[jAb,hzd];cases hbad:rs.any badR with
    | true=>rfl
    | false=>
     simp only[cond_false,jAj,if_false];show (bif !jja now then _ else _)=_;cases htm:jja now with
     | false=>rfl
     | true=>
      simp only[jBh,cond_false,jAj,if_false,zFa he,jAb];by_cases hsi:now < e.Since
      .rw[decide_eq_true hsi,if_pos hsi];rfl
      rw[decide_eq_false hsi,if_neg hsi];simp only[cond_false];rw[vza _ (by omega)];simp only[jAb];rw[show iter (jFa q.Entries) (0,0,q.Entries)=some (q.Entries,q.Entries.length) from V8a q.Entries (Yna hq ok)];simp only[jAb,zFa he];have hbads:∀v∈rs,badR v=false:=fun v hv=>by rw[jCr]at hbad;simpa using hbad v hv
      have hg:Wja (wTo (vJa e rs now) (resP e a rs now).2).To (wTo (vJa e rs now) (resP e a rs now).2).Mail.Envelope.To:=by
       show Wja (resP e a rs now).2 (vJa e rs now).Mail.Envelope.To;rw[Yqa];exact Ypa _ _ (zip_bad hbads) (KZa o5).1
      have hto:=(hw e hem).1;have htail:=wsb (L2:=q.Entries.set n (wTo (vJa e rs now) (resP e a rs now).2)) (n:=n) (x:=wTo (vJa e rs now) (resP e a rs now).2) (by simpa using hne) (by simp;omega) (by simp[hne]) (by show (resP e a rs now).2.length<=_;rw[k0b];omega) hg;have hfil:=qRb (L:=q.Entries) (x:=wTo (vJa e rs now) (resP e a rs now).2) hne (fun y hy=>(KZa (ok.ent y hy).2.2.2.2).2);have hfil2:(if Q5a (wTo (vJa e rs now) (resP e a rs now).2) then q.Entries.set n (wTo (vJa e rs now) (resP e a rs now).2) else (q.Entries.set n (wTo (vJa e rs now) (resP e a rs now).2)).take n++(q.Entries.set n (wTo (vJa e rs now) (resP e a rs now).2)).drop (n+1))=(q.Entries.set n (wTo (vJa e rs now) (resP e a rs now).2)).filter Q5a:=by
       rw[hfil];split
       .rfl
       rw[Wka _ hne];have hln:(q.Entries.take n).length=n:=by simp;omega
       rw[List.take_append_of_le_length (by omega),List.take_of_length_le (by omega),List.drop_append,hln,List.drop_of_length_le (by omega)];simp
      rw[hfil2]at htail;simp only[jBe]at htail;obtain ⟨y,hy,hyd⟩:=any_late rs hrs;rw[hy];simp only[jAb,hyd];have hrng:=o4;unfold rngQ at hrng;simp only[jAs,decide_eq_true_eq]at hrng;have htr:1<=w4a e/\w4a e<=1000000:=by unfold w4a;omega
      have hid1:(vJa e rs now).Id=a.Entry:=by rw[lateE_id,hid]
      cases hlat:rs.any latR with
      | false=>
       simp only[cond_false,jAb];have hs:vJa e rs now=e:=by unfold vJa;rw[hlat];rfl
       have hlp:=ztb (a:=a) (rs:=rs) (f:=⟨0,0⟩) (L:=q.Entries) (n:=n) (e:=e) (e1:=vJa e rs now) (again:=Zpa e rs now) (j3:=((n:Int),0,0)) (j60:=(true,q.Entries)) (j63:=(0,[])) (b:=(q.Entries,q.Entries.length)) (m:=0) hne hne hl hlen hbads hid1 rfl (fun h=>by rw[hlat]at h;cases h) (fun h=>by rw[hlat]at h;cases h) (.inl rfl) a.To [] rs [] (-1) [] e.To rfl rfl rfl (by omega) ht rfl (fun j _=>rfl) (jBc _);have hs0:q.Entries.set n (vJa e rs now)=q.Entries:=by rw[hs,Jga he]
       rw[kZb,hs0]at hlp;rw[show iter (qXa a rs ((n:Int),⟨0,0⟩) (q.Entries,q.Entries.length) (true,q.Entries)) (0,([]:List zla),q.Entries)=some ((resP e a rs now).1,q.Entries.set n (wTo (vJa e rs now) (resP e a rs now).2)) from hlp];simp only[jAb];rw[htail];rfl
      | true=>
       have hw64:w64 (e.Tries+1)=e.Tries+1:=vga (by omega) (by omega);simp only[cond_true,jAb,Zoa hne,hw64,jBe,jDu];rw[show min (e.Tries+1) 1000000=w4a e from rfl];rw[Joa e.Since (w4a e) now hrng.1.1.1 htm htr (by omega)];simp only[jAb];have hag:Zpa e rs now=(jUa e.Since (w4a e) now).2:=by unfold Zpa;rw[hlat];rfl
       have hj:∀X:List zca,X=q.Entries.set n (vJa e rs now)->iter (qXa a rs ((n:Int),⟨0,0⟩) (q.Entries,q.Entries.length) ((jUa e.Since (w4a e) now).2,X)) (0,([]:List zla),X)=some ((resP e a rs now).1,q.Entries.set n (wTo (vJa e rs now) (resP e a rs now).2)):=by
        rintro X rfl;have hlp:=ztb (a:=a) (rs:=rs) (f:=⟨0,0⟩) (L:=q.Entries) (n:=n) (e:=e) (e1:=vJa e rs now) (again:=Zpa e rs now) (j3:=((n:Int),0,0)) (j60:=((jUa e.Since (w4a e) now).2,q.Entries.set n (vJa e rs now))) (j63:=(if Zpa e rs now then 0 else 3,[])) (b:=(q.Entries,q.Entries.length)) (m:=0) hne hne hl hlen hbads hid1 rfl (fun h=>hag.symm) (fun h=>rfl) (.inl rfl) a.To [] rs [] (-1) [] e.To rfl rfl rfl (by omega) ht rfl (fun j _=>rfl) (jBc _);rw[kZb]at hlp;exact hlp
       have hlate:vJa e rs now=⟨e.Id,e.Mail,e.Since,w4a e,if (jUa e.Since (w4a e) now).2 then max (jUa e.Since (w4a e) now).1 e.Due else e.Due,e.To⟩:=by unfold vJa;rw[hlat];rfl
       cases hg2:(jUa e.Since (w4a e) now).2 with
       | true=>
        rw[hg2]at hj hlate;simp only[cond_true,jAb,Zoa hne,jDu,jBe];rw[hj _ (by rw[hlate];rfl)];simp only[jAb];rw[htail];rfl
       | false=>
        rw[hg2]at hj hlate;simp only[cond_false,jAb];rw[hj _ (by rw[hlate];rfl)];simp only[jAb];rw[htail];rfl
   rw[show ((rs.length:Int) !=(a.To.length:Int))=true by simp;omega,if_pos hlen];rfl
  have h2:((attP q a true).2.Code !=0)=true:=by simpa using hca
  rw[h2];rfl
 have h1:((queF q).Code !=0)=true:=by simpa using hc
 rw[h1];simp only[if_true,h1,cond_true]
theorem Yra(l:List Int)(h:l.length<=1048576):W8a l l=some true:=by
 unfold W8a;simp only[bne_self_eq_false,cond_false];rw[kKa l (fun _ _=>(none:Option Bool)) (.inl ()) .inr]
 .rw[q3a.2 (fun _ _ _=>rfl)];rfl
 .unfold KEa;rw[z5a];rfl
 intro k w hw;have hk:=z4a hw;unfold KEa;rw[kta hw,zFa hw];simp only[cond_true,jAb,bne_self_eq_false,cond_false,sc k (by omega)];rfl
theorem ZJa(l:List zla)(h:l.length<=1048576):vua l l=some true:=by
 unfold vua;simp only[bne_self_eq_false,cond_false];rw[kKa l (fun _ _=>(none:Option Bool)) (.inl ()) .inr]
 .rw[q3a.2 (fun _ _ _=>rfl)];rfl
 .unfold via;rw[z5a];rfl
 intro k w hw;have hk:=z4a hw;unfold via;rw[kta hw,zFa hw];simp only[cond_true,jAb,beq_self_eq_true,sc k (by omega)];rfl
theorem wtb(l:List Str)(hl:l.length<=1048576):KFa l=some ⟨⟨[115,64,120],l.map (fun s=>⟨s,1⟩),[55]⟩,⟨[],[]⟩⟩:=by
 unfold KFa;have:=(Zia l (fun i (s:List zba)=>(i,s)) (fun s x=>s++ [(⟨x,1⟩:zba)]) id (fun i s=>s.length<=i) (body:=yqa l)
  (fun s _=>by unfold yqa;simp[z5a]) (fun i x s hx hi=>by
   have hlt:=z4a hx;refine ⟨?_,by simp;omega⟩;unfold yqa;dsimp only;rw[kta hx,zFa hx];simp only[cond_true,jAb,sc i (by omega)];rw[vxa (by simp;omega)];rfl) [] (by simp)).1
 rw[this,kRb];rfl
theorem kya:ysa ⟨[],0⟩:=⟨by simp,fun e he=>by cases he⟩
theorem Kia(q:zva)(a:zwa)(hq:ysa q):ysa (Zna q a).1:=by
 unfold Zna;split
 .exact kya
 split
 .exact kya
 split
 .exact kya
 show ysa ⟨Yma _ _ _,_⟩;unfold Yma;split
 .rename_i e he;refine ⟨by simp;exact hq.1,fun y hy=>?_⟩;rcases jBk hy with hy | rfl
  .exact hq.2 y hy
  have hm:=hq.2 e (jAe he);refine ⟨hm.1,?_⟩;show (a.To.foldl onK e.To).length<=_;have:∀(l:List Int) (T:List zga),(l.foldl onK T).length=T.length:=by
   intro l;induction l with
   | nil=>intro T;rfl
   | cons k l ih=>intro T;rw[jDh,ih,krb]
  rw[this];exact hm.2
 exact hq
theorem Wla(again:Bool)(id:Int):∀(l:List (Int × Int)) (s:List zla × List zga),(l.foldl (resS again id) s).1.length<=s.1.length+l.length
 | [],s=>by simp
 | kv::l,s=>by
  rw[jDh];have:=Wla again id l (resS again id s kv);have h2:(resS again id s kv).1.length<=s.1.length+1:=by unfold resS;dsimp only;split <;> simp
  simp only[jCl];omega
theorem kub(q:zva)(a:zwa)(rs:List Int)(now:Int)(hq:ysa q)(hl:a.To.length<=1048576):ysa (Q6a q a rs now).1/\(Q6a q a rs now).2.1.length<=1048576:=by
 unfold Q6a;split
 .exact ⟨kya,by simp⟩
 split
 .exact ⟨kya,by simp⟩
 rename_i h1 h2;obtain ⟨n,e,ha,he,_⟩:=Jma (q:=q) (a:=a) (on:=true) (by simpa using h2);split
 .exact ⟨kya,by simp⟩
 split
 .exact ⟨kya,by simp⟩
 split
 .exact ⟨kya,by simp⟩
 split
 .exact ⟨kya,by simp⟩
 rw[ha];simp only[jBe,he,jBt];unfold endP;have hm:=hq.2 e (jAe he);refine ⟨⟨?_,fun y hy=>?_⟩,?_⟩
 .have:=List.length_filter_le Q5a (q.Entries.set n (wTo (vJa e rs now) (resP e a rs now).2));rw[jBz]at this;exact jCh this hq.1
 .rcases jBk (jCw.1 hy).1 with hy | rfl
  .exact hq.2 y hy
  refine ⟨?_,?_⟩
  .show vya (vJa e rs now).Mail;rw[Yqa];exact hm.1
  show (resP e a rs now).2.length<=_;rw[k0b];exact hm.2
 have h3:=Wla (Zpa e rs now) a.Entry (a.To.zip rs) ([],e.To);have h4:(a.To.zip rs).length<=a.To.length:=by rw[List.length_zip];omega
 show ((a.To.zip rs).foldl (resS (Zpa e rs now) a.Entry) ([],e.To)).1.length<=_;simp only[jCx]at h3;omega
def apdF(log:List UInt8)(r:zfa):List UInt8 × zsa:=if 200000 < log.length then ([],⟨1, -1⟩) else if (rcdF r).Code !=0 then ([],rcdF r) else if 200000 < log.length+(spE r).length then ([],⟨1, -9⟩) else (log++spE r,⟨0,0⟩)
theorem yva(log:List UInt8)(r:zfa)(h:kqa r):qxa log r=some (apdF log r):=by
 unfold qxa apdF;by_cases hb:200000 < log.length
 .rw[decide_eq_true (show (200000:Int) < (log.length:Int) by omega),if_pos hb];rfl
 rw[decide_eq_false (show ¬(200000:Int) < (log.length:Int) by omega),if_neg hb];simp only[cond_false];rw[yWa r h];simp only[jAb,z6a];cases (rcdF r).Code !=0 with
 | true=>rfl
 | false=>
  simp only[cond_false,jAj,if_false];rw[yua r h];simp only[jAb];have hl:=Wba h;have he:=Kha r;rw[wib _ _ (by omega)];simp only[jAb];rw[jAg];by_cases h2:200000 < log.length+(spE r).length
  .rw[decide_eq_true (show (200000:Int) < ((log.length+(spE r).length:Nat):Int) by omega),if_pos h2];rfl
  rw[decide_eq_false (show ¬(200000:Int) < ((log.length+(spE r).length:Nat):Int) by omega),if_neg h2];rfl
def repS(r:zfa)(s:zva × List zla):zsa × zva × List zla:=
 if r.Kind==1 then ((addP s.1 r.Mail r.Now).2.2,(addP s.1 r.Mail r.Now).1,s.2) else if (Zna s.1 r.Attempt).2.Code !=0 then ((Zna s.1 r.Attempt).2,(Zna s.1 r.Attempt).1,s.2) else
 ((Q6a (Zna s.1 r.Attempt).1 r.Attempt r.Results r.Now).2.2,(Q6a (Zna s.1 r.Attempt).1 r.Attempt r.Results r.Now).1,s.2++(Q6a (Zna s.1 r.Attempt).1 r.Attempt r.Results r.Now).2.1)
def repR:Nat->List zfa->zva × List zla->(zva × List zla) ⊕ zsa
 | _,[],s=>.inl s
 | i,r::l,s=>if (repS r s).1.Code !=0 then .inr ⟨(repS r s).1.Code,i⟩ else repR (i+1) l (repS r s).2
theorem wub(i:Nat)(r:zfa)(l:List zfa)(s:zva × List zla):repR i (r::l) s=if (repS r s).1.Code !=0 then .inr ⟨(repS r s).1.Code,i⟩ else repR (i+1) l (repS r s).2:=rfl
def rcdQ(i:Nat)(r:zfa):Option zsa:=if (rcdF r).Code !=0 then some ⟨(rcdF r).Code,i⟩ else none
def repF(l:List zfa):zva × List zla × zsa:=if 100 < l.length then (⟨[],0⟩,[],⟨2, -1⟩) else match kCa rcdQ 0 l with
 | some f=>(⟨[],0⟩,[],f)
 | none=>match repR 0 l (⟨[],0⟩,[]) with
  | .inl s=>(s.1,s.2,⟨0,0⟩)
  | .inr f=>(⟨[],0⟩,[],f)
theorem K0a:∀(l:List Int) (T:List zga),Zla T->Zla (l.foldl onK T)
 | [],T,h=>h
 | k::l,T,h=>by
  refine K0a l _ ⟨by rw[krb];exact h.1,fun w hwm=>?_⟩;unfold onK at hwm;split at hwm
  .rename_i v hv;rcases jBk hwm with hwm | rfl
   .exact h.2 w hwm
   exact h.2 v (jAe hv)
  exact h.2 w hwm
theorem Z1a(again:Bool)(id:Int):∀(l:List (Int × Int)) (s:List zla × List zga),Zla s.2->Zla (l.foldl (resS again id) s).2
 | [],s,h=>h
 | kv::l,s,h=>by
  refine Z1a again id l _ ⟨?_,fun w hwm=>?_⟩
  .show (resK again s.2 kv).length<=_;rw[Vla];exact h.1
  have hwm:w∈resK again s.2 kv:=hwm;unfold resK at hwm;split at hwm
  .rename_i v hv;rcases jBk hwm with hwm | rfl
   .exact h.2 w hwm
   exact h.2 v (jAe hv)
  exact h.2 w hwm
theorem kla:wYa ⟨[],0⟩:=fun e he=>by cases he
theorem yOa(q:zva)(a:zwa)(hw:wYa q):wYa (Zna q a).1:=by
 unfold Zna;split
 .exact kla
 split
 .exact kla
 split
 .exact kla
 show wYa ⟨Yma _ _ _,_⟩;unfold Yma;split
 .rename_i e he;intro y hy;rcases jBk hy with hy | rfl
  .exact hw y hy
  exact K0a _ _ (hw e (jAe he))
 exact hw
theorem QVa(q:zva)(a:zwa)(rs:List Int)(now:Int)(hw:wYa q):wYa (Q6a q a rs now).1/\(Q6a q a rs now).2.1.length<=a.To.length:=by
 unfold Q6a;split
 .exact ⟨kla,by simp⟩
 split
 .exact ⟨kla,by simp⟩
 rename_i h1 h2;obtain ⟨n,e,ha,he,_⟩:=Jma (q:=q) (a:=a) (on:=true) (by simpa using h2);split
 .exact ⟨kla,by simp⟩
 split
 .exact ⟨kla,by simp⟩
 split
 .exact ⟨kla,by simp⟩
 split
 .exact ⟨kla,by simp⟩
 rw[ha];simp only[jBe,he,jBt];unfold endP;have hm:=hw e (jAe he);refine ⟨fun y hy=>?_,?_⟩
 .rcases jBk (jCw.1 hy).1 with hy | rfl
  .exact hw y hy
  exact Z1a _ _ _ _ hm
 have h3:=Wla (Zpa e rs now) a.Entry (a.To.zip rs) ([],e.To);have h4:(a.To.zip rs).length<=a.To.length:=by rw[List.length_zip];omega
 show ((a.To.zip rs).foldl (resS (Zpa e rs now) a.Entry) ([],e.To)).1.length<=_;simp only[jCx]at h3;omega
theorem qSb(q:zva)(m:kha)(now:Int)(hq:ysa q)(hw:wYa q)(hm:vya m):ysa (addP q m now).1/\wYa (addP q m now).1:=by
 unfold addP;split
 .exact ⟨kya,kla⟩
 rename_i h0;split
 .exact ⟨kya,kla⟩
 split
 .exact ⟨kya,kla⟩
 split
 .exact ⟨kya,kla⟩
 obtain ⟨ok,_⟩:=Waa (q:=q) (by simpa using h0);have hn:=ok.n;obtain ⟨t1,t2⟩:=yta hm;refine ⟨⟨by simp;omega,fun e he=>?_⟩,fun e he=>?_⟩
 .rcases jCk.1 he with he | he
  .exact hq.2 e he
  rw[jCf.1 he];exact ⟨hm,by simpa[newE]using t1⟩
 rcases jCk.1 he with he | he
 .exact hw e he
 rw[jCf.1 he];refine ⟨by simpa[newE]using t1,fun w hwm=>?_⟩;obtain ⟨r,hr,rfl⟩:=jBy.1 hwm;exact t2 r hr
def InvR(n:Nat)(s:zva × List zla):Prop:=ysa s.1/\wYa s.1/\s.2.length<=60 * n
theorem rcd_to{r:zfa}(h:(rcdF r).Code=0):r.Attempt.To.length<=60:=by
 rcases rcd_nf h with ⟨_,ha,_⟩ | ⟨_,_,hd⟩
 .rw[ha];simp
 unfold wlb at hd;split at hd
 .simp at hd
 split at hd
 .simp at hd
 split at hd
 .simp at hd
 rename_i h3;simp at h3;omega
theorem repS_inv{n:Nat}{s:zva × List zla}{r:zfa}(hi:InvR n s)(h:kqa r)(hf:(rcdF r).Code=0):InvR (n+1) (repS r s).2:=by
 obtain ⟨h1,h2,h3⟩:=hi;have ht:=rcd_to hf;unfold repS;split
 .obtain ⟨a,b⟩:=qSb s.1 r.Mail r.Now h1 h2 h.mail;exact ⟨a,b,by show s.2.length<=_;omega⟩
 split
 .exact ⟨Kia _ _ h1,yOa _ _ h2,by show s.2.length<=_;omega⟩
 obtain ⟨d1,d2⟩:=kub (Zna s.1 r.Attempt).1 r.Attempt r.Results r.Now (Kia _ _ h1) (by omega);obtain ⟨e1,e2⟩:=QVa (Zna s.1 r.Attempt).1 r.Attempt r.Results r.Now (yOa _ _ h2);exact ⟨d1,e1,by
  show (s.2++_).length<=_;rw[jAg];omega⟩
def repZ(x:(zva × List zla) ⊕ zsa):((List zla) × (List zca) × Int) ⊕ (zva × (List zla) × zsa):=match x with
 | .inl s=>.inl (s.2,s.1.Entries,s.1.Next)
 | .inr f=>.inr (⟨[],0⟩,[],f)
theorem wvb(l:List zfa)(hl:l.length<=100)(hs:∀r∈l,kqa r/\(rcdF r).Code=0):iter (qPa l) (0,([]:List zla),[],0)=some (repZ (repR 0 l (⟨[],0⟩,[]))):=by
 refine Qva l (fun n (s:zva × List zla)=>((n:Int),s.2,s.1.Entries,s.1.Next)) (fun n r s=>repZ (repR n r s)) (fun n r s=>InvR n s) (fun s _=>?_) (fun p x r s hp hi=>?_) (⟨[],0⟩,[]) rfl ⟨kya,kla,by simp⟩
 .unfold qPa;dsimp only;rw[z5a];rfl
 have hx:l[p.length]? =some x:=by rw[hp];simp
 have hlt:=z4a hx;obtain ⟨x1,x2⟩:=hs x (jAe hx);have hto:=rcd_to x2;obtain ⟨i1,i2,i3⟩:=hi;have hinv:=repS_inv (r:=x) (n:=p.length) ⟨i1,i2,i3⟩ x1 x2;have hb:qPa l ((p.length:Int),s.2,s.1.Entries,s.1.Next)=some (if (repS x s).1.Code !=0 then .out (.inr (⟨[],0⟩,[],⟨(repS x s).1.Code,p.length⟩)) else .cont (((p.length+1:Nat):Int),(repS x s).2.2,(repS x s).2.1.Entries,(repS x s).2.1.Next)):=by
  unfold qPa repS;dsimp only;rw[kta hx,zFa hx];simp only[cond_true,jAb];rw[show (zva.mk s.1.Entries s.1.Next)=s.1 from rfl];cases hk:x.Kind==1 with
  | true=>
   simp only[cond_true,if_true];rw[zob _ _ _ i1 x1.mail];simp only[jAb,z6a,zNa,sc _ (show p.length < 9223372036854775807 by omega)];cases (addP s.1 x.Mail x.Now).2.2.Code !=0 <;> rfl
  | false=>
   simp only[cond_false,jAj,if_false];rw[Jna _ _ i1 i2 (by omega)];simp only[jAb,z6a,zNa];cases ht:(Zna s.1 x.Attempt).2.Code !=0 with
   | true=>simp only[jBh,cond_false,jAb,ht,cond_true,if_true]
   | false=>
    simp only[jDt,cond_true,jAj,if_false];rw[Jsa _ _ _ _ (Kia _ _ i1) (yOa _ _ i2) (by omega) x1.res];simp only[jAb];have hd:=(QVa (Zna s.1 x.Attempt).1 x.Attempt x.Results x.Now (yOa _ _ i2)).2;rw[vxa (by omega)];simp only[jAb,sc _ (show p.length < 9223372036854775807 by omega)];cases (Q6a (Zna s.1 x.Attempt).1 x.Attempt x.Results x.Now).2.2.Code !=0 <;> rfl
 rw[hb,wub];cases hc:(repS x s).1.Code !=0 with
 | true=>exact .inl rfl
 | false=>exact .inr ⟨(repS x s).2,rfl,by simp,hinv⟩
theorem wwb(l:List zfa)(hl:l.length<=100)(hs:∀r∈l,kqa r):iter (vwa l) 0=some ((kCa rcdQ 0 l).elim (Sum.inl ()) fun f=>Sum.inr ((⟨[],0⟩,[],f):zva × List zla × zsa)):=by
 refine kKa l rcdQ (Sum.inl ()) (fun f=>Sum.inr ((⟨[],0⟩,[],f):zva × List zla × zsa)) ?_ ?_
 .unfold vwa;rw[z5a];rfl
 intro i x hx;have hi:=z4a hx;unfold vwa;rw[kta hx,zFa hx];simp only[cond_true,jAb];rw[yWa _ (hs x (jAe hx))];simp only[jAb,z6a,zNa,sc i (by omega)];unfold rcdQ;cases (rcdF x).Code !=0 <;> rfl
theorem wxb{l:List zfa}(h:kCa rcdQ 0 l=none):∀r∈l,(rcdF r).Code=0:=by
 intro r hr;rw[q3a]at h;obtain ⟨i,hi⟩:=List.mem_iff_getElem?.1 hr;have:=h i r hi;unfold rcdQ at this;split at this
 .cases this
 rename_i hc;simpa using hc
theorem Wma(l:List zfa)(hs:∀r∈l,kqa r):v4a l=some (repF l):=by
 unfold v4a repF;by_cases hl:100 < l.length
 .rw[decide_eq_true (show (100:Int) < (l.length:Int) by omega),if_pos hl];rfl
 rw[decide_eq_false (show ¬(100:Int) < (l.length:Int) by omega),if_neg hl];simp only[cond_false];rw[wwb l (by omega) hs];cases hf:kCa rcdQ 0 l with
 | some f=>rfl
 | none=>
  simp only[Option.elim_none,jAb,Sum.elim_inl];rw[wvb l (by omega) (fun r hr=>⟨hs r hr,wxb hf r hr⟩)];cases repR 0 l (⟨[],0⟩,[]) <;> rfl
def xM:kha:=⟨⟨[115,64,120],[⟨[97,64,121],1⟩],[55]⟩,⟨[],[]⟩⟩
def xAdd:zfa:=⟨1,0,xM,⟨0,[],[]⟩,[]⟩
def xDone:zfa:=⟨2,5,⟨⟨[],[],[]⟩,⟨[],[]⟩⟩,⟨0,[121],[0]⟩,[1]⟩
theorem xM_small:vya xM:=⟨⟨by decide,by decide,by decide,fun r hr=>by simp[xM]at hr;subst hr;decide⟩,⟨by decide,fun f hf=>by simp[xM]at hf⟩,by decide⟩
theorem QCa:kqa xAdd:=⟨xM_small,by decide,by decide,by decide⟩
theorem kvb:kqa xDone:=⟨Wga,by decide,by decide,by decide⟩
theorem qTb:kqa zRec:=⟨Wga,by decide,by decide,by decide⟩
theorem xAdd_ok:zvb xAdd:=by
 refine ⟨?_,?_,?_,fun x hx=>?_,fun x hx=>by simp[xAdd]at hx,fun x hx=>by simp[xAdd]at hx⟩
 .show ok64 1;unfold ok64;omega
 .show ok64 0;unfold ok64;omega
 .show ok64 0;unfold ok64;omega
 simp[xAdd,xM]at hx;subst hx;show ok64 1;unfold ok64;omega
theorem k1b:rcdF xAdd=⟨0,0⟩:=by rfl
theorem Vma:(spB xAdd).length=79:=by rfl
theorem x_app:apdF [] xAdd=(spE xAdd,⟨0,0⟩):=by
 have h:=Kha xAdd;rw[Vma]at h;unfold apdF;rw[k1b,if_neg (by simp),if_neg (by simp),if_neg (by simp;omega)];rfl
theorem accP_nil:accP []=none:=rfl
theorem x_read:qOb (spE xAdd)=([xAdd],((spE xAdd).length:Int),⟨0,0⟩):=by
 have h:=Kha xAdd;rw[Vma]at h;have h1:=kXb QCa xAdd_ok (by rw[k1b]) (by rw[Vma];omega) [];rw[jCz]at h1;unfold qOb;rw[if_neg (by omega),show (100:Nat)=99+1 from rfl,KXa h1,List.drop_length,KWa accP_nil];rfl
theorem x_rep:repF [xAdd,xDone]=(⟨[],1⟩,[⟨0,0,1⟩],⟨0,0⟩):=by rfl
theorem WFa:jfa=some true:=by
 unfold jfa;rw[wtb _ (by decide)];simp only[jAb];rw[show ([([97,64,121]:Str)]:List Str).map (fun s=>(⟨s,1⟩:zba))=[⟨[97,64,121],1⟩] from rfl];show ((qxa [] xAdd).bind fun v3=>(wBa v3.1).bind fun v5=>(v4a [xAdd,xDone]).bind fun v7=>(qxa [] zRec).bind fun v9=>_)=_;rw[yva _ _ QCa,x_app];simp only[jAb];have h:=Kha xAdd;rw[Vma]at h;rw[KYa _ (by omega),x_read,Wma _ (fun r hr=>by
  simp at hr;rcases hr with rfl | rfl
  .exact QCa
  exact kvb),x_rep,yva _ _ qTb]
 simp only[jAb,R_At_eq];rw[show apdF [] zRec=([],⟨4, -2⟩) from rfl,ZJa _ (by decide),decide_eq_true (show (16:Int) < ((spE xAdd).length:Int) by omega)];simp;rfl
theorem kwb{r:zfa}(h:zfa.bk r<=1048576):kqa r:=by
 have h1:zfa.bk r=1+1+kha.bk r.Mail+zwa.bk r.Attempt+bkL (fun _=>1) r.Results+1:=rfl;have h2:zwa.bk r.Attempt=1+(r.Attempt.Domain.length+1)+bkL (fun _=>1) r.Attempt.To+1:=rfl;have h3:=Qxa (bk:=fun _:Int=>1) (fun x=>by simp) r.Attempt.To;have h4:=Qxa (bk:=fun _:Int=>1) (fun x=>by simp) r.Results;exact ⟨qLb (by omega),by omega,by omega,by omega⟩
theorem okRec_of{r:zfa}(h:zfa.ok r):zvb r:=by
 obtain ⟨h1,h2,h3,h4,h5⟩:=h;exact ⟨h1,h2,h4.1,fun x hx=>(h3.1.2.1.2 x hx).2,h4.2.2.2,h5.2⟩
structure Fine (r:zfa):Prop where
 sm:kqa r
 ok:zvb r
 ff:(rcdF r).Code=0
theorem K1a(r:zfa)(h:kqa r):wqa r r=some true:=by
 unfold wqa;rw[V7a _ (yta h.mail).1 (jla h.mail).1,Yra _ h.to,Yra _ h.res];simp
theorem Kja(l:List zfa)(hl:l.length<=1048576)(h:∀r∈l,kqa r):vOa l l=some true:=by
 unfold vOa;rw[show ((l.length:Int) !=(l.length:Int))=false by simp];simp only[cond_false];rw[kKa l (fun _ _=>(none:Option Bool)) (.inl ()) .inr,q3a.2 (fun _ _ _=>rfl)]
 .rfl
 .unfold vHa;rw[z5a];rfl
 intro i x hx;have hi:=z4a hx;unfold vHa;rw[kta hx,zFa hx];simp only[cond_true,jAb];rw[K1a x (h x (jAe hx))];simp only[jAb,jBh,cond_false,sc i (by omega)];rfl
def wrF:List UInt8->List zfa->Option (List UInt8)
 | log,[]=>some log
 | log,r::l=>if (apdF log r).2.Code !=0 then none else wrF (apdF log r).1 l
theorem k2b(log:List UInt8)(r:zfa)(l:List zfa):wrF log (r::l)=if (apdF log r).2.Code !=0 then none else wrF (apdF log r).1 l:=rfl
theorem apdF_ok{log:List UInt8}{r:zfa}(h:(apdF log r).2.Code=0):(apdF log r).1=log++spE r/\(rcdF r).Code=0/\log.length+(spE r).length<=200000:=by
 unfold apdF at h ⊢;split at h
 .simp at h
 rename_i h1;rw[if_neg h1];split at h
 .rename_i h2;simp at h2;exact absurd h h2
 rename_i h2;rw[if_neg h2];split at h
 .simp at h
 rename_i h3;rw[if_neg h3];exact ⟨rfl,by simpa using h2,by omega⟩
theorem Jta(l:List zfa)(hl:l.length<=1048576)(h:∀r∈l,kqa r):jga l=some (match wrF [] l with | some log=>(log,true) | none=>([],false)):=by
 unfold jga;have hloop:iter (vIa l) (([]:List UInt8),0)=some ((wrF [] l).elim (.inr ([],false)) .inl):=by
  refine KIa l (fun n (s:List UInt8)=>(s,(n:Int))) (fun n r s=>((wrF s r).elim (.inr ([],false)) .inl:List UInt8 ⊕ (List UInt8 × Bool))) (fun s=>?_) (fun p x r s hp=>?_) [] rfl
  .unfold vIa;dsimp only;rw[z5a];rfl
  have hx:l[p.length]? =some x:=by rw[hp];simp
  have hlt:=z4a hx;have hb:vIa l (s,(p.length:Int))=some (if (apdF s x).2.Code !=0 then .out (.inr ([],false)) else .cont ((apdF s x).1,((p.length+1:Nat):Int))):=by
   unfold vIa;dsimp only;rw[kta hx,zFa hx];simp only[cond_true,jAb];rw[yva _ _ (h x (jAe hx))];simp only[jAb,sc _ (show p.length < 9223372036854775807 by omega)];cases (apdF s x).2.Code !=0 <;> rfl
  rw[hb,k2b];cases (apdF s x).2.Code !=0 with
  | true=>exact .inl rfl
  | false=>exact .inr ⟨(apdF s x).1,rfl,rfl⟩
 rw[hloop];cases wrF [] l <;> rfl
theorem wrF_ok:∀(l:List zfa) (log out:List UInt8),log.length<=200000->wrF log l=some out->out=log++l.flatMap spE/\(∀r∈l,(rcdF r).Code=0)/\out.length<=200000
 | [],log,out,hl,h=>by cases h;exact ⟨by simp,fun r hr=>(by cases hr),hl⟩
 | r::l,log,out,hl,h=>by
  rw[k2b]at h;split at h
  .cases h
  rename_i hc;obtain ⟨a1,a2,a3⟩:=apdF_ok (log:=log) (r:=r) (by simpa using hc);rw[a1]at h;obtain ⟨b1,b2,b3⟩:=wrF_ok l _ out (by rw[jAg];omega) h;refine ⟨by rw[b1];simp,fun x hx=>?_,b3⟩;rcases jCd.1 hx with rfl | hx
  .exact a2
  exact b2 x hx
def fnv(h:Int)(c:UInt8):Int:=wu64 (uXor h (c.toNat:Int) * 1099511628211)
def in64(h:Int):Prop:=0<=h/\h < 18446744073709551616
theorem zyb(h:Int)(c:UInt8):in64 (fnv h c):=by unfold in64 fnv wu64;omega
theorem mul_injG(n p:Nat)(hc:Nat.Coprime n p){x y:Int}(hx:0<=x/\x < (n:Int))(hy:0<=y/\y < (n:Int))(h:x * (p:Int) % (n:Int)=y * (p:Int) % (n:Int)):x=y:=by
 have h1:=Int.dvd_of_emod_eq_zero (Int.emod_eq_emod_iff_emod_sub_eq_zero.1 h);rw[<-Int.sub_mul]at h1;have h2:=Int.natAbs_dvd_natAbs.2 h1;rw[Int.natAbs_mul,Int.natAbs_natCast,Int.natAbs_natCast]at h2;have h4:=Nat.Coprime.dvd_of_dvd_mul_right hc h2;have h5:=Nat.eq_zero_of_dvd_of_lt h4 (by omega);omega
theorem wyb{x y:Int}(hx:in64 x)(hy:in64 y)(h:wu64 (x * 1099511628211)=wu64 (y * 1099511628211)):x=y:=
 mul_injG 18446744073709551616 1099511628211 (by decide+kernel) hx hy h
theorem Jua(a b:Int):in64 (uXor a b):=by
 unfold in64 uXor;have:=(BitVec.ofInt 64 a ^^^ BitVec.ofInt 64 b).isLt;have h2:(2:Nat) ^ 64=18446744073709551616:=by decide
 omega
theorem bv_inj{a b:Int}(ha:in64 a)(hb:in64 b)(h:BitVec.ofInt 64 a=BitVec.ofInt 64 b):a=b:=by
 have:=congrArg BitVec.toNat h;rw[BitVec.toNat_ofInt,BitVec.toNat_ofInt,show ((2 ^ 64:Nat):Int)=18446744073709551616 by decide]at this;unfold in64 at ha hb;omega
theorem Ysa{a b c:BitVec 64}(h:a ^^^ c=b ^^^ c):a=b:=by
 have:=congrArg (· ^^^ c) h;simpa[BitVec.xor_assoc]using this
theorem wzb{a b c:Int}(ha:in64 a)(hb:in64 b)(h:uXor a c=uXor b c):a=b:=by
 unfold uXor at h;exact bv_inj ha hb (Ysa (BitVec.eq_of_toNat_eq (by exact_mod_cast h)))
theorem wAb{a c d:Int}(hc:in64 c)(hd:in64 d)(h:uXor a c=uXor a d):c=d:=by
 unfold uXor at h;have h1:=BitVec.eq_of_toNat_eq (x:=BitVec.ofInt 64 a ^^^ BitVec.ofInt 64 c) (y:=BitVec.ofInt 64 a ^^^ BitVec.ofInt 64 d) (by exact_mod_cast h);rw[BitVec.xor_comm,BitVec.xor_comm (BitVec.ofInt 64 a)]at h1;exact bv_inj hc hd (Ysa h1)
theorem wBb(c:UInt8):in64 (c.toNat:Int):=by
 have:=UInt8.toNat_lt c;unfold in64;omega
theorem fnv_injL{a b:Int}{c:UInt8}(ha:in64 a)(hb:in64 b)(h:fnv a c=fnv b c):a=b:=
 wzb ha hb (wyb (Jua _ _) (Jua _ _) h)
theorem fnv_injR{a:Int}{c d:UInt8}(h:fnv a c=fnv a d):c=d:=by
 have:=wAb (wBb c) (wBb d) (wyb (Jua _ _) (Jua _ _) h);exact UInt8.toNat_inj.1 (by omega)
theorem wCb:∀(l:List UInt8) (h:Int),in64 h->in64 (l.foldl fnv h)
 | [],h,hh=>hh
 | c::l,h,_=>wCb l _ (zyb h c)
theorem k3b:∀(l:List UInt8) (a b:Int),in64 a->in64 b->l.foldl fnv a=l.foldl fnv b->a=b
 | [],a,b,_,_,h=>h
 | c::l,a,b,ha,hb,h=>fnv_injL ha hb (k3b l _ _ (zyb a c) (zyb b c) h)
theorem zzb(l:List UInt8):sumB l=l.foldl fnv 14695981039346656037:=rfl
theorem sum_in(l:List UInt8):in64 (sumB l):=wCb l _ (by unfold in64;omega)
theorem kxb{l:List UInt8}{i:Nat}{c d:UInt8}(hc:l[i]? =some c)(hd:d≠c):sumB (l.set i d)≠sumB l:=by
 intro h;have hi:=z4a hc;have e1:l=l.take i++c::l.drop (i+1):=by
  have:=List.take_append_drop i l;obtain ⟨h1,h2⟩:=jAc.1 hc;rw[List.drop_eq_getElem_cons h1,h2]at this;exact this.symm
 have e2:l.set i d=l.take i++d::l.drop (i+1):=Wka d hi;rw[e2,zzb,zzb]at h;have h' :(l.take i++d::l.drop (i+1)).foldl fnv 14695981039346656037=(l.take i++c::l.drop (i+1)).foldl fnv 14695981039346656037:=by rw[h,<-e1]
 rw[List.foldl_append,List.foldl_append,jDh,jDh]at h';exact hd (fnv_injR (k3b _ _ _ (zyb _ _) (zyb _ _) h'))
theorem w64_inj{a b:Int}(ha:in64 a)(hb:in64 b)(h:w64 a=w64 b):a=b:=by
 unfold in64 at ha hb;rw[zeb,zeb]at h;split at h <;> split at h <;> omega
theorem zAb{body body' rest:List UInt8}(hl:(encT body' ++(num8 (w64 (sumB body))++rest)).length<=1048576)(hne:sumB body' ≠sumB body):accP (encT body' ++(num8 (w64 (sumB body))++rest))=none:=by
 cases hx:accP (encT body' ++(num8 (w64 (sumB body))++rest)) with
 | none=>rfl
 | some rn=>
  exfalso;obtain ⟨r',n⟩:=rn;obtain ⟨q1,_,_,⟨rest',q4⟩,_⟩:=Wia hl hx;unfold spE at q4;rw[jAp]at q4;have l1:=Wba q1;rw[jAg,kDa]at hl;obtain ⟨h1,h2⟩:=kWb (by omega) (by omega) q4;obtain ⟨h3,_⟩:=List.append_inj h2 (by rw[zLa,zLa]);have h4:=w64_inj (sum_in _) (sum_in _) (Jra (W9a _) (W9a _) h3);rw[<-h1]at h4;exact hne h4.symm
theorem zBb:∀(l:List zfa) (k:Nat) (X:List UInt8),(∀r∈l,Fine r)->l.length<=k->(l.flatMap spE).length<=1048576->accP X=none->rdsN k (l.flatMap spE++X)=(l,(l.flatMap spE).length)
 | [],k,X,_,_,_,hX=>by
  rw[List.flatMap_nil,jCo,KWa hX];rfl
 | r::l,k,X,hf,hk,hl,hX=>by
  have hr:=hf r (by simp);rw[jCy]at hl ⊢;rw[jAg]at hl;have he:=Kha r;obtain ⟨k',rfl⟩:∃k',k=k' +1:=⟨k - 1,by simp at hk;omega⟩;have ih:=zBb l k' X (fun x hx=>hf x (by simp[hx])) (by simpa using hk) (by omega) hX;rw[jAp,KXa (kXb hr.sm hr.ok hr.ff (by omega) _),List.drop_left,ih,jAg]
theorem yaa(a0:List zfa)(a1:Int)(a2:Int)(o0:(okL zfa.ok) a0)(o1:ok64 a1)(o2:ok64 a2)(hk:(bkL zfa.bk) a0+(fun _=>1) a1+(fun _=>1) a2<=1048576):qda a0 a1 a2=some true:=by
 dsimp only at hk;have hs:∀r∈a0,kqa r:=fun r hr=>by
  have:=kab (bk:=zfa.bk) hr;exact kwb (by omega)
 have hlen:=Qxa (bk:=zfa.bk) (fun x=>by unfold zfa.bk;omega) a0;unfold qda;rw[Jta a0 (by omega) hs,WFa];simp only[jAb,jBh,cond_false];cases hw:wrF [] a0 with
 | none=>rfl
 | some log=>
  obtain ⟨w1,w2,w3⟩:=wrF_ok a0 [] log (by simp) hw;rw[jCo]at w1;have hf:∀r∈a0,Fine r:=fun r hr=>⟨hs r hr,okRec_of (o0.2 r hr),w2 r hr⟩
  simp only[jBh,cond_false,R_In_eq,jAb];by_cases hn:1<=a0.length/\a0.length<=20
  .rw[decide_eq_true (show (1:Int)<=(a0.length:Int) by omega),decide_eq_true (show (a0.length:Int)<=20 by omega)];simp only[Bool.and_self,jBh,cond_false];by_cases hby:1<=a2/\a2<=255
   .rw[decide_eq_true hby.1,decide_eq_true hby.2];simp only[Bool.and_self,jBh,cond_false];obtain ⟨m,hm⟩:∃m:Nat,a0.length=m+1:=⟨a0.length - 1,by omega⟩;have hidx:w64 ((a0.length:Int) - 1)=(m:Int):=by rw[hm,vga (by omega) (by omega)];omega
    have hx:a0[m]? =some (a0[m]'(by omega)):=jAi (by omega);generalize a0[m]'(by omega)=x at hx;have hxf:=hf x (jAe hx);rw[hidx,zFa hx];simp only[jAb];rw[QAa _ hxf.sm];simp only[jAb];have hsplit:a0=a0.take m++ [x]:=by
     have h1:a0.take (m+1)=a0.take m++ [x]:=by rw[List.take_add_one,hx];rfl
     rw[<-h1,<-hm,List.take_length]
    have hlog:log=(a0.take m).flatMap spE++spE x:=by
     rw[w1]
     conv=>lhs;rw[hsplit]
     rw[List.flatMap_append,jCy,List.flatMap_nil,jCz]
    have he:=Kha x;generalize hP:(a0.take m).flatMap spE=P at hlog;have hlogl:log.length=P.length+(spE x).length:=by rw[hlog,jAg]
    have hk9:w64 (((spE x).length:Int) - 9)=((spE x).length:Int) - 9:=vga (by omega) (by omega);rw[hk9];by_cases hat:8<=a1/\a1<=((spE x).length:Int) - 9
    .rw[decide_eq_true hat.1,decide_eq_true hat.2];simp only[Bool.and_self,jBh,cond_false];rw[decide_eq_false (show ¬(log.length:Int) < ((spE x).length:Int) by omega)];simp only[jAb,cond_false];rw[vxa (by simp;omega)];simp only[jAb,jCo];obtain ⟨i,rfl⟩:∃i:Nat,a1=((8+i:Nat):Int):=⟨(a1 - 8).toNat,by omega⟩;have hil:i < (spB x).length:=by omega
     have hkk:w64 (w64 ((log.length:Int) - ((spE x).length:Int))+((8+i:Nat):Int))=((P.length+8+i:Nat):Int):=by
      rw[vUb _ _ (by omega) (by omega),zcb _ _ (by omega)];omega
     have hlk:w64 ((log.length:Int) - ((spE x).length:Int))=(P.length:Int):=by
      rw[vUb _ _ (by omega) (by omega)];omega
     rw[hkk];have hb:(spB x)[i]? =some ((spB x)[i]'hil):=jAi hil;generalize (spB x)[i]'hil=c at hb;have hE:log=P++(num8 ((spB x).length:Int)++(spB x++num8 (w64 (sumB (spB x))))):=by
      rw[hlog];unfold spE encT;simp
     have hget:log[P.length+8+i]? =some c:=by
      rw[hE,jAh (by omega),show P.length+8+i - P.length=8+i by omega,jAh (by rw[zLa];omega),zLa,show 8+i - 8=i by omega,jAk (by omega)];exact hb
     rw[zFa hget];simp only[jAb,jBe];have hcl:=UInt8.toNat_lt c;generalize hd:toU8 (iRem (w64 ((c.toNat:Int)+a2)) 256)=d;have hdc:d≠c:=by
      rw[<-hd,vga (by omega) (by omega)];unfold toU8 iRem;obtain ⟨y,rfl⟩:∃y:Nat,a2=(y:Int):=⟨a2.toNat,by omega⟩;rw[show ((c.toNat:Int)+(y:Int))=((c.toNat+y:Nat):Int) by omega];intro hcc;have:=congrArg UInt8.toNat hcc;rw[jCt]at this;have hz:∀z:Nat,(z:Int).tmod 256=((z % 256:Nat):Int):=fun z=>rfl
      first
       | rw[hz]at this
       | (rw[show w64 (((c.toNat+y:Nat):Int).tmod 256)=(((c.toNat+y) % 256:Nat):Int) by rw[hz,vga (by omega) (by omega)]]at this)
      omega
     have hset:log.set (P.length+8+i) d=P++(encT ((spB x).set i d)++(num8 (w64 (sumB (spB x)))++ [])):=by
      rw[hE,List.set_append_right _ _ (by omega),show P.length+8+i - P.length=8+i by omega,List.set_append_right _ _ (by rw[zLa];omega),zLa,show 8+i - 8=i by omega,List.set_append_left _ _ (by omega)];unfold encT;rw[jBz];simp
     have hlset:(log.set (P.length+8+i) d).length<=200000:=by rw[jBz];exact w3
     rw[KYa _ (by omega)];have hfm:∀r∈a0.take m,Fine r:=fun r hr=>hf r (jCu hr)
     have hml:(a0.take m).length=m:=by rw[jBu];omega
     have hread:qOb (log.set (P.length+8+i) d)=(a0.take m,(P.length:Int),⟨0,0⟩):=by
      unfold qOb;have hacc:=zAb (body:=spB x) (body' :=(spB x).set i d) (rest:=[]) (by
       rw[hset,jAg]at hlset;omega) (kxb hb hdc)
      have:=zBb (a0.take m) 100 _ hfm (by omega) (by rw[hP];omega) hacc;rw[hP]at this;rw[if_neg (by omega),hset,this]
     rw[hread];simp only[jAb,beq_self_eq_true,cond_true];rw[hlk];simp only[beq_self_eq_true,cond_true];rw[QOa (show m<=a0.length by omega)];simp only[jAb];rw[Kja _ (by omega) (fun r hr=>(hfm r hr).sm)];rfl
    have:(decide (8<=a1) && decide (a1<=((spE x).length:Int) - 9))=false:=by
     rw[Bool.and_eq_false_iff,decide_eq_false_iff_not,decide_eq_false_iff_not];omega
    rw[this];simp only[jDt,cond_true,jAb];rw[decide_eq_true (show ((spE x).length:Int)<=(log.length:Int) by omega)];rfl
   have:(decide (1<=a2) && decide (a2<=255))=false:=by
    rw[Bool.and_eq_false_iff,decide_eq_false_iff_not,decide_eq_false_iff_not];omega
   rw[this];rfl
  have:(decide (1<=(a0.length:Int)) && decide ((a0.length:Int)<=20))=false:=by
   rw[Bool.and_eq_false_iff,decide_eq_false_iff_not,decide_eq_false_iff_not];omega
  rw[this];rfl
theorem zCb(a0:List Str)(r:kha)(hr:KFa a0=some r):Run prog 28 [.l cS a0] (.agg (zN2 r)):=by
 unfold KFa at hr;refine rf (fn:=f28) ⟨func28,rfl,by kernel_rfl⟩ rfl (fun _=>rfl) fun g0 hg=>?_
 refine rn tk 10 rfl ?_;refine yla 1003 (o:=3) (j:=1) 78 2 rfl rfl rfl rfl (hO ?_);refine rn tk 1 rfl ?_;refine yla 2003 (o:=3) (j:=1) 78 2 rfl rfl rfl rfl (hO ?_);refine rn tk 9 rfl<|al1 hr (fun s1=>[(0,.l cS a0),(2,.ptr 2 0),(3,.ptr 3 0),(4,.i s1.1)]) (fun s1=>[(2003,.row 78 false 2 (List.map zba.pc s1.2)),(3,.cells [.s (([115,64,120]:Str)),.hs 2003 0,.s (([55]:Str)),.l zka.pc ([]),.l cU ([])]),(2,.cells [.s (([]:Str)),.l zba.pc ([]),.s (([]:Str)),.l zka.pc ([]),.l cU ([])])]) (.exit 0) (fun b2=>[(2,.ptr 2 0),(3,.ptr 3 0)]) (fun b2=>[(2003,.row 78 false 2 (List.map zba.pc b2)),(3,.cells [.s (([115,64,120]:Str)),.hs 2003 0,.s (([55]:Str)),.l zka.pc ([]),.l cU ([])]),(2,.cells [.s (([]:Str)),.l zba.pc ([]),.s (([]:Str)),.l zka.pc ([]),.l cU ([])])]) rfl rfl (fun s1 x3 hr=>?_) (fun b2 hr=>?_)
 .unfold yqa at hr;refine rn tk 5 rfl<|wn tk rfl rfl rfl<|rn tk 3 rfl<|ac 10 hr rfl (fun c4 hr=>?_) (fun c4 hr=>?_)
  .refine rn tk 4 rfl ?_;obtain ⟨v5,h6,hr⟩:=zaa hr;refine dr 9 [(21,.l zba.pc (([(zba.mk v5 1)]:List zba))),(20,.agg [.s v5,.i 1]),(19,.s v5),(18,.ep [pS v5]),(17,.i s1.1),(16,.l cS a0),(15,.hs 2003 0),(14,.ptr 3 1),(13,.ptr 3 0)] mixed (by kernel_rfl) rfl rfl (pq tk rfl (.plain rfl) (pq tk rfl (.plain rfl) (pq tk rfl (.plain rfl) (pq tk rfl (.plain rfl) (pq tk rfl (.plain rfl) (.run (.plain rfl) (zpa (q4a (f:=cS) rfl rfl VUa z9a rfl h6)) (pq tk rfl (.plain rfl) (pq tk rfl (.plain rfl) (.run (.plain rfl) (vWa (F:=zba.pc) (l:=([(zba.mk v5 1)]:List zba)) zza zQa rfl (fun _=>rfl) rfl rfl) .nil))))))))) rfl ?_;obtain ⟨v7,h8,hr⟩:=zaa hr;refine wa tk h8 rfl rfl rfl rfl (fun _=>rfl) rfl rfl<|rn tk 11 rfl ?_;cases hr;exact atc rfl rfl
  refine rn tk 2 rfl ?_;cases hr;exact ato rfl rfl rfl rfl
 refine rn tk 8 rfl ?_;refine Vfa (o:=2) (j:=1) (F:=zba.pc) (l:=b2) rfl rfl rfl (hC ?_);refine rn tk 1 rfl ?_;cases hr;exact kr tk (.inr rfl) rfl rfl
theorem Kka(a0:List zla)(a1:List zla)(r:Bool)(hr:vua a0 a1=some r):Run prog 19 [.l zla.pc a0,.l zla.pc a1] (.bo r):=by
 unfold vua at hr;refine rf (fn:=f19) ⟨func19,rfl,by kernel_rfl⟩ rfl (fun _=>rfl) fun g0 hg=>?_
 refine rn tk 9 rfl<|wn tk rfl rfl rfl<|rn tk 1 rfl<|wn tk rfl rfl rfl<|rn tk 3 rfl<|ac 10 hr rfl (fun c1 hr=>?_) (fun c1 hr=>?_)
 .refine rn tk 7 rfl ?_;cases hr;exact kr tk (.inr rfl) rfl rfl
 refine rn tk 9 rfl<|al2 hr (fun s2=>[(0,.l zla.pc a0),(1,.l zla.pc a1),(5,.i s2)]) (fun s2=>[]) (.exit 0) (fun b3=>[]) (fun b3=>[]) .ret (fun b4=>[(4,.bo b4)]) (fun b4=>[]) rfl rfl (fun s2 x6 hr=>?_) (fun b3 hr=>?_) (fun b4 hr=>?_)
 .unfold via at hr;refine rn tk 5 rfl<|wn tk rfl rfl rfl<|rn tk 3 rfl<|ac 14 hr rfl (fun c7 hr=>?_) (fun c7 hr=>?_)
  .refine rn tk 5 rfl ?_;obtain ⟨v8,h9,hr⟩:=zaa hr;obtain ⟨v10,h11,hr⟩:=zaa hr;refine dr 8 [(24,.agg [.i v10.Entry,.i v10.Number,.i v10.Result]),(23,.ep [pI v10.Entry,pI v10.Number,pI v10.Result]),(22,.i s2),(21,.l zla.pc a1),(20,.agg [.i v8.Entry,.i v8.Number,.i v8.Result]),(19,.ep [pI v8.Entry,pI v8.Number,pI v8.Result]),(18,.i s2),(17,.l zla.pc a0)] mixed (by kernel_rfl) rfl rfl (pq tk rfl (.plain rfl) (pq tk rfl (.plain rfl) (.run (.plain rfl) (zpa (q4a (f:=zla.pc) rfl rfl vRa vLa rfl h9)) (pq tk rfl (.plain rfl) (pq tk rfl (.plain rfl) (pq tk rfl (.plain rfl) (.run (.plain rfl) (zpa (q4a (f:=zla.pc) rfl rfl vRa vLa rfl h11)) (pq tk rfl (.plain rfl) .nil)))))))) rfl<|wq (jta rfl rfl vLa VQa (.int rfl (by decide) zZa (.int rfl (by decide) zZa (.int rfl (by decide) zZa .nil)))) rfl rfl rfl<|rn tk 2 rfl<|ac 25 hr rfl (fun c12 hr=>?_) (fun c12 hr=>?_)
   .refine rn tk 8 rfl ?_;cases hr;exact ato rfl rfl rfl rfl
   refine rn tk 8 rfl ?_;cases hr;exact atc rfl rfl
  refine rn tk 2 rfl ?_;cases hr;exact ato rfl rfl rfl rfl
 .refine rn tk 8 rfl ?_;cases hr;exact kr tk (.inr rfl) rfl rfl
 refine rn tk 2 rfl ?_;cases hr;exact kr tk (.inr rfl) rfl rfl
theorem jNa(a0:Int)(a1:Int)(r:zsa)(hr:R_At a0 a1=some r):Run prog 10 [.i a0,.i a1] (.agg [.i r.Code,.i r.Index]):=by
 unfold R_At at hr;refine rf (fn:=f10) ⟨func10,rfl,by kernel_rfl⟩ rfl (fun _=>rfl) fun g0 hg=>?_
 refine rn tk 14 rfl ?_;cases hr;exact kr tk (.inr rfl) rfl rfl
theorem zRa(a0:zsa)(r:Bool)(hr:z0a a0=some r):Run prog 24 [.agg [.i a0.Code,.i a0.Index]] (.bo r):=by
 unfold z0a at hr;refine rf (fn:=f24) ⟨func24,rfl,by kernel_rfl⟩ rfl (fun _=>rfl) fun g0 hg=>?_
 refine rn tk 15 rfl ?_;cases hr;exact kr tk (.inr rfl) rfl rfl
theorem zia(a0:Int)(a1:Int)(r:zsa)(hr:zoa a0 a1=some r):Run prog 22 [.i a0,.i a1] (.agg [.i r.Code,.i r.Index]):=by
 unfold zoa at hr;refine rf (fn:=f22) ⟨func22,rfl,by kernel_rfl⟩ rfl (fun _=>rfl) fun g0 hg=>?_
 refine rn tk 14 rfl ?_;cases hr;exact kr tk (.inr rfl) rfl rfl
theorem zXa(r:zsa)(hr:kma=some r):Run prog 27 [] (.agg [.i r.Code,.i r.Index]):=by
 unfold kma at hr;refine rf (fn:=f27) ⟨func27,rfl,by kernel_rfl⟩ rfl (fun _=>rfl) fun g0 hg=>?_
 refine rn tk 12 rfl ?_;cases hr;exact kr tk (.inr rfl) rfl rfl
theorem ywa(a0:List (List UInt8))(r:List UInt8)(hr:kPa a0=some r):Run prog 25 [.l (cL cU) a0] (.l cU r):=by
 unfold kPa at hr;refine rf (fn:=f25) ⟨func25,rfl,by kernel_rfl⟩ rfl (fun _=>rfl) fun g0 hg=>?_
 refine rn tk 14 rfl<|wn tk rfl rfl rfl<|rn tk 4 rfl<|al1 hr (fun s1=>[(0,.l (cL cU) a0),(3,.i s1.1),(9,.l (cL cU) a0),(10,.i ((a0.length:Int))),(11,.i s1.2)]) (fun s1=>[]) (.exit 0) (fun b2=>[(0,.l (cL cU) a0),(3,.i b2)]) (fun b2=>[]) rfl rfl (fun s1 x3 hr=>?_) (fun b2 hr=>?_)
 .unfold kra at hr;refine rn tk 6 rfl<|ac 12 hr rfl (fun c4 hr=>?_) (fun c4 hr=>?_)
  .refine rn tk 6 rfl ?_;obtain ⟨v5,h6,hr⟩:=zaa hr;refine wi tk h6 rfl rfl rfl rfl rfl<|rn tk 8 rfl<|wn tk rfl rfl rfl<|rn tk 10 rfl<|ac 20 hr rfl (fun c7 hr=>?_) (fun c7 hr=>?_)
   .refine rn tk 1 rfl ?_;cases hr
   refine rn tk 7 rfl ?_;cases hr;exact atc rfl rfl
  refine rn tk 2 rfl ?_;cases hr;exact ato rfl rfl rfl rfl
 refine rn tk 5 rfl<|il (fn:=f50) (args:=[.pv (.sl (some true) []),.i b2]) 100000 199999 [(0,.l (cL cU) a0)] rfl ⟨func50,rfl,by kernel_rfl⟩ rfl rfl rfl fun T1 ds1=>?_
 refine rn tk 12 rfl<|ac 6 hr rfl (fun c8 hr=>?_) (fun c8 hr=>?_)
 .refine rn tk 1 rfl ?_;cases hr
 refine rn tk 7 rfl<|wq (JNa rfl zna.u) rfl rfl rfl<|rn tk 1 rfl<|wq (JOa rfl zna.u) rfl rfl rfl<|rn tk 11 rfl<|ac 16 hr rfl (fun c9 hr=>?_) (fun c9 hr=>?_)
 .refine rn tk 3 rfl<|wq (JNa rfl zna.u) rfl rfl rfl<|wq (ev_slnil rfl rfl zna zAa) rfl rfl rfl<|rn tk 1 rfl ?_;obtain ⟨v10,h11,hr⟩:=zaa hr;refine wo (JPa (k:=22) (F:=cU) (z:=((0:UInt8):UInt8)) (lim:=140737488355328) 1022 rfl rfl rfl rfl rfl zna zZa zAa rfl rfl rfl h11) rfl<|rn tk 1 rfl<|wq (JOa rfl zna.u) rfl rfl rfl ?_;obtain ⟨v12,h13,hr⟩:=zaa hr;refine wo (qdb (k:=25) (F:=cU) (l:=v10) rfl rfl rfl rfl zna zAa h13) rfl<|rn tk 10 rfl ?_;refine ie tk [.hs 1022 0] [(0,.l (cL cU) a0)] [(1022,.row 5 true 1 (List.map cU v12))] (.inr rfl) rfl rfl rfl rfl (hO ?_);refine rn tk 7 rfl<|wn tk rfl rfl rfl<|rn tk 4 rfl<|al1 hr (fun s14=>[(6,.hs 1022 0),(25,.l (cL cU) a0),(26,.i ((a0.length:Int))),(27,.i s14.1)]) (fun s14=>[(1022,.row 5 true 1 (List.map cU s14.2))]) (.exit 2) (fun b15=>[(6,.hs 1022 0)]) (fun b15=>[(1022,.row 5 true 1 (List.map cU b15))]) rfl rfl (fun s14 x16 hr=>?_) (fun b15 hr=>?_)
  .unfold ksa at hr;refine rn tk 6 rfl<|ac 28 hr rfl (fun c17 hr=>?_) (fun c17 hr=>?_)
   .refine rn tk 6 rfl ?_;obtain ⟨v18,h19,hr⟩:=zaa hr;refine wi tk h19 rfl rfl rfl rfl rfl<|rn tk 7 rfl ?_;obtain ⟨v20,h21,hr⟩:=zaa hr;refine wa tk h21 rfl rfl rfl rfl (fun _=>rfl) rfl rfl<|rn tk 8 rfl ?_;cases hr;exact atc rfl rfl
   refine rn tk 2 rfl ?_;cases hr;exact ato rfl rfl rfl rfl
  refine rn tk 8 rfl ?_;refine yFa 1022 rfl (hC ?_);refine vUa (d:=2) (F:=cU) (l:=b15) rfl rfl (hC ?_);refine rn tk 1 rfl ?_;cases hr;exact kr tk (.inr rfl) rfl rfl
 refine rn tk 5 rfl ?_;refine vBa 1026 (d:=26) 5 1 rfl rfl rfl (hO ?_);refine rn tk 4 rfl ?_;refine ie tk [.hs 1026 0] [(0,.l (cL cU) a0)] [(1026,.row 5 false 1 (List.map cU (([]:List UInt8))))] (.inr rfl) rfl rfl rfl rfl (hO ?_);refine rn tk 7 rfl<|wn tk rfl rfl rfl<|rn tk 4 rfl<|al1 hr (fun s22=>[(6,.hs 1026 0),(25,.l (cL cU) a0),(26,.i ((a0.length:Int))),(27,.i s22.1)]) (fun s22=>[(1026,.row 5 false 1 (List.map cU s22.2))]) (.exit 2) (fun b23=>[(6,.hs 1026 0)]) (fun b23=>[(1026,.row 5 false 1 (List.map cU b23))]) rfl rfl (fun s22 x24 hr=>?_) (fun b23 hr=>?_)
 .unfold kUa at hr;refine rn tk 6 rfl<|ac 28 hr rfl (fun c25 hr=>?_) (fun c25 hr=>?_)
  .refine rn tk 6 rfl ?_;obtain ⟨v26,h27,hr⟩:=zaa hr;refine wi tk h27 rfl rfl rfl rfl rfl<|rn tk 7 rfl ?_;obtain ⟨v28,h29,hr⟩:=zaa hr;refine wa tk h29 rfl rfl rfl rfl (fun _=>rfl) rfl rfl<|rn tk 8 rfl ?_;cases hr;exact atc rfl rfl
  refine rn tk 2 rfl ?_;cases hr;exact ato rfl rfl rfl rfl
 refine rn tk 8 rfl ?_;refine vUa (d:=2) (F:=cU) (l:=b23) rfl rfl (hC ?_);refine rn tk 1 rfl ?_;cases hr;exact kr tk (.inr rfl) rfl rfl
theorem vfa(a0:Int)(r:Bool)(hr:qLa a0=some r):Run prog 46 [.i a0] (.bo r):=by
 unfold qLa at hr;refine yZa (fn:=f46) ⟨func46,rfl,by kernel_rfl⟩ rfl (fun _=>rfl) fun g0 hg=>?_
 refine vka ?_;refine kRa ?_;refine zGa rfl (zJa (d:=2) rfl rfl qsa) ?_;refine qna<|koa ?_;obtain ⟨j1,hx,hy⟩:=zaa hr;refine Vda (fun j1=>[(2,.bo j1)]) (fun j1=>[]) (fun z=>j1=z) ?_ ?_
 .have hr:=hx;clear hx hy;refine kRa ?_;refine zGa rfl (zJa (d:=3) rfl rfl kYa) ?_;refine zGa rfl (zJa (d:=4) rfl rfl (qXb rfl rfl)) ?_;refine zGa rfl (zJa (d:=5) rfl rfl kYa)<|qga (decide ((-68719476736)<=a0)) (fun c2=>?_) (fun c2=>?_)
  .replace hr:=yha c2 hr
   refine w6a (d:=5) rfl rfl rfl c2 (zJa (d:=6) rfl rfl kYa) ?_;refine w6a (d:=5) rfl rfl rfl c2 (zJa (d:=7) rfl rfl (ev_leq rfl rfl)) ?_;refine zGa rfl (zJa (d:=8) rfl rfl (zua rfl c2)) ?_;refine zGa rfl (zJa (d:=2) rfl rfl qsa) ?_;refine qna ?_;cases hr;exact yBa _ rfl (zea rfl zYa) zja
  replace hr:=yia c2 hr
  refine yRa (d:=5) rfl rfl rfl c2 ?_;refine yRa (d:=5) rfl rfl rfl c2 ?_;refine zGa rfl (zJa (d:=8) rfl rfl (vma rfl c2)) ?_;refine zGa rfl (zJa (d:=2) rfl rfl qsa) ?_;refine qna ?_;cases hr;exact yBa _ rfl (zea rfl zYa) zja
 rintro _ rfl;have hr:=hy;clear hx hy;refine K6a ?_;cases hr;exact q1b rfl (.cons (Qba rfl) .nil) rfl
theorem jVa(a0:UInt8)(r:Bool)(hr:v1a a0=some r):Run prog 141 [.u8 a0] (.bo r):=by
 unfold v1a at hr;refine rf (fn:=f141) ⟨func141,rfl,by kernel_rfl⟩ rfl (fun _=>rfl) fun g0 hg=>?_
 refine rn tk 5 rfl<|jb hr (fun j1=>[(2,.bo j1)]) (fun j1=>[]) (fun j1 hr=>?_) (fun j1 hr=>?_)
 .refine rn tk 4 rfl<|bs 5 hr rfl (fun c2 hr=>?_) (fun c2 hr=>?_)
  .refine rn tk 4 rfl<|bs 9 hr rfl (fun c3 hr=>?_) (fun c3 hr=>?_)
   .refine rn tk 17 rfl ?_;cases hr;exact jn _ rfl rfl rfl
   refine rn tk 3 rfl<|bs 12 hr rfl (fun c4 hr=>?_) (fun c4 hr=>?_)
   .refine rn tk 5 rfl<|bs 17 hr rfl (fun c5 hr=>?_) (fun c5 hr=>?_)
    .refine rn tk 9 rfl ?_;cases hr;exact jn _ rfl rfl rfl
    refine rn tk 3 rfl<|bs 20 hr rfl (fun c6 hr=>?_) (fun c6 hr=>?_)
    .refine rn tk 6 rfl ?_;cases hr;exact jn _ rfl rfl rfl
    refine rn tk 6 rfl ?_;cases hr;exact jn _ rfl rfl rfl
   refine rn tk 8 rfl<|bs 20 hr rfl (fun c7 hr=>?_) (fun c7 hr=>?_)
   .refine rn tk 6 rfl ?_;cases hr;exact jn _ rfl rfl rfl
   refine rn tk 6 rfl ?_;cases hr;exact jn _ rfl rfl rfl
  refine rn tk 7 rfl<|bs 12 hr rfl (fun c8 hr=>?_) (fun c8 hr=>?_)
  .refine rn tk 5 rfl<|bs 17 hr rfl (fun c9 hr=>?_) (fun c9 hr=>?_)
   .refine rn tk 9 rfl ?_;cases hr;exact jn _ rfl rfl rfl
   refine rn tk 3 rfl<|bs 20 hr rfl (fun c10 hr=>?_) (fun c10 hr=>?_)
   .refine rn tk 6 rfl ?_;cases hr;exact jn _ rfl rfl rfl
   refine rn tk 6 rfl ?_;cases hr;exact jn _ rfl rfl rfl
  refine rn tk 8 rfl<|bs 20 hr rfl (fun c11 hr=>?_) (fun c11 hr=>?_)
  .refine rn tk 6 rfl ?_;cases hr;exact jn _ rfl rfl rfl
  refine rn tk 6 rfl ?_;cases hr;exact jn _ rfl rfl rfl
 refine rn tk 1 rfl ?_;cases hr;exact kr tk (.inr rfl) rfl rfl
theorem WGa(a0:Str)(r:Bool)(hr:y3a a0=some r):Run prog 125 [.s a0] (.bo r):=by
 unfold y3a at hr;refine rf (fn:=f125) ⟨func125,rfl,by kernel_rfl⟩ rfl (fun _=>rfl) fun g0 hg=>?_
 refine rn tk 5 rfl<|jb hr (fun j1=>[(2,.bo j1)]) (fun j1=>[]) (fun j1 hr=>?_) (fun j1 hr=>?_)
 .refine rn tk 4 rfl<|bs 5 hr rfl (fun c2 hr=>?_) (fun c2 hr=>?_)
  .refine rn tk 5 rfl<|bs 10 hr rfl (fun c3 hr=>?_) (fun c3 hr=>?_)
   .refine rn tk 1 rfl<|ug rfl rfl rfl<|ct hr (fun j4=>[(10,.bo true),(12,.bo j4)]) (fun j4=>[]) (fun j4 hr jump4=>?_) (fun j4 hr=>?_)
    .refine il (fn:=f120) (args:=[.s a0,.fn (.func 140) [] []]) 400000 499999 [(10,.bo true)] rfl ⟨func120,rfl,by kernel_rfl⟩ rfl rfl rfl fun T4 ds4=>?_
     refine rn tk 14 rfl<|al2 hr (fun s5=>[(0,.s a0),(1,.fn (.func 140) [] []),(7,.i ((a0.length:Int))),(8,.i s5)]) (fun s5=>[(499999,.sus g0.w.heap.size ds4),(400010,.hold (.bo true) (T4.getD 10 undef))]) (.exit 0) (fun b6=>[]) (fun b6=>[(499999,.sus g0.w.heap.size ds4),(400010,.hold (.bo true) (T4.getD 10 undef))]) .ret (fun b7=>[(4,.bo false)]) (fun b7=>[(499999,.sus g0.w.heap.size ds4),(400010,.hold (.bo true) (T4.getD 10 undef))]) rfl rfl (fun s5 x9 hr=>?_) (fun b6 hr=>?_) (fun b7 hr=>?_)
     .unfold wca at hr;refine rn tk 6 rfl<|ac 9 hr rfl (fun c10 hr=>?_) (fun c10 hr=>?_)
      .refine rn tk 15 rfl ?_;obtain ⟨v11,h12,hr⟩:=zaa hr;refine ws tk h12 rfl rfl rfl rfl<|il (fn:=f140) (args:=[.u8 v11]) 600000 699999 [(0,.s a0),(1,.fn (.func 140) [] []),(7,.i ((a0.length:Int))),(8,.i s5)] rfl ⟨func140,rfl,by kernel_rfl⟩ rfl rfl rfl fun T6 ds6=>?_
       refine rn tk 5 rfl<|jb hr (fun j13=>[(2,.bo j13)]) (fun j13=>[(699999,.sus g0.w.heap.size ds6),(600000,.hold (.s a0) (T6.getD 0 undef)),(600001,.hold (.fn (.func 140) [] []) (T6.getD 1 undef)),(600007,.hold (.i ((a0.length:Int))) (T6.getD 7 undef)),(600008,.hold (.i s5) (T6.getD 8 undef)),(499999,.sus g0.w.heap.size ds4),(400010,.hold (.bo true) (T4.getD 10 undef))]) (fun j13 hr=>?_) (fun j13 hr=>?_)
       .refine rn tk 2 rfl ?_;obtain ⟨v14,h15,hr⟩:=zaa hr;refine cl (jVa _ _ h15) rfl rfl<|rn tk 1 rfl<|bs 5 hr rfl (fun c16 hr=>?_) (fun c16 hr=>?_)
        .refine rn tk 13 rfl ?_;cases hr;exact jn _ rfl rfl rfl
        refine rn tk 4 rfl<|bs 9 hr rfl (fun c17 hr=>?_) (fun c17 hr=>?_)
        .refine rn tk 9 rfl ?_;cases hr;exact jn _ rfl rfl rfl
        refine rn tk 4 rfl<|bs 13 hr rfl (fun c18 hr=>?_) (fun c18 hr=>?_)
        .refine rn tk 5 rfl ?_;cases hr;exact jn _ rfl rfl rfl
        refine rn tk 5 rfl ?_;cases hr;exact jn _ rfl rfl rfl
       refine rn tk 1 rfl ?_;refine ie tk [.bo j13] [(0,.s a0),(1,.fn (.func 140) [] []),(7,.i ((a0.length:Int))),(8,.i s5)] [(499999,.sus g0.w.heap.size ds4),(400010,.hold (.bo true) (T4.getD 10 undef))] (.inr rfl) rfl rfl rfl rfl (hO ?_);refine rn tk 3 rfl<|ac 16 hr rfl (fun c19 hr=>?_) (fun c19 hr=>?_)
       .refine rn tk 8 rfl ?_;cases hr;exact ato rfl rfl rfl rfl
       refine rn tk 7 rfl ?_;cases hr;exact atc rfl rfl
      refine rn tk 2 rfl ?_;cases hr;exact ato rfl rfl rfl rfl
     .refine rn tk 8 rfl ?_;refine ie tk [.bo true] [(10,.bo true)] [] (.inr rfl) rfl rfl rfl rfl ?_;cases hr;exact jump4 _ _ rfl rfl
     refine rn tk 2 rfl ?_;refine ie tk [.bo false] [(10,.bo true)] [] (.inr rfl) rfl rfl rfl rfl ?_;cases hr;exact jump4 _ _ rfl rfl
    refine rn tk 3 rfl ?_;cases hr;exact jn _ rfl rfl rfl
   refine rn tk 5 rfl ?_;cases hr;exact jn _ rfl rfl rfl
  refine rn tk 10 rfl ?_;cases hr;exact jn _ rfl rfl rfl
 refine rn tk 1 rfl ?_;cases hr;exact kr tk (.inr rfl) rfl rfl
end Go.Proofs.YtdblnmhmmfahkaaGreat
