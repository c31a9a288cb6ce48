/- Part 4 of the proof of the law SpoolReplayMatchesSpec: what it needs. -/
import Derived.Test.YtdblnmhmmfahkaaGreatKSpoolReplayMatchesSpec3
import Derived.Laws.RangeAny
import Derived.Lib.ItoaMem
set_option linter.unusedVariables false
set_option linter.unusedSimpArgs false
set_option maxRecDepth 100000
set_option maxHeartbeats 40000000
namespace Go.Proofs.YtdblnmhmmfahkaaGreat
open Go.RowKit
def YHa(c:UInt8):Bool:=(decide (97<=c) && decide (c<=122)) || (decide (65<=c) && decide (c<=90)) || (decide (48<=c) && decide (c<=57))
def y7a(c:UInt8):Bool:=(decide (97<=c) && decide (c<=122)) || (decide (48<=c) && decide (c<=57)) || c==45 || c==46
def WIa(c:UInt8):Bool:=YHa c || c==45 || c==95 || c==46 || c==43 || c==61
def Z7a:Bool->Str->Bool
 | p,[]=> !p
 | p,c::r=>if c=46 then !p && Z7a true r else Z7a false r
def domP(s:Str):Bool:=decide (s.length<=60) && s.all y7a && Z7a true s
def atP(s:Str):Nat:=s.findIdx (· ==64)
def Wba(s:Str):Bool:=decide (atP s < s.length) && decide (1<=atP s) && decide (atP s<=60) && (s.take (atP s)).all WIa && domP (s.drop (atP s+1))
theorem Z8a(k:Nat)(c:UInt8)(hk:OfNat.ofNat k < 256):decide ((no_index (OfNat.ofNat k:Int))<=(c.toNat:Int))=decide ((OfNat.ofNat k:UInt8)<=c):=by
 have e:(OfNat.ofNat k:Int)=((OfNat.ofNat k:Nat):Int):=rfl;have h2:(OfNat.ofNat k:UInt8).toNat=(OfNat.ofNat k:Nat):=by
  show (UInt8.ofNat k).toNat=k;rw[jDd];exact jCz hk
 rw[jAq,decide_eq_true_eq,decide_eq_true_eq,UInt8.le_iff_toNat_le,h2,e];omega
theorem Z9a(k:Nat)(c:UInt8)(hk:OfNat.ofNat k < 256):decide ((c.toNat:Int)<=(no_index (OfNat.ofNat k:Int)))=decide (c<=(OfNat.ofNat k:UInt8)):=by
 have e:(OfNat.ofNat k:Int)=((OfNat.ofNat k:Nat):Int):=rfl;have h2:(OfNat.ofNat k:UInt8).toNat=(OfNat.ofNat k:Nat):=by
  show (UInt8.ofNat k).toNat=k;rw[jDd];exact jCz hk
 rw[jAq,decide_eq_true_eq,decide_eq_true_eq,UInt8.le_iff_toNat_le,h2,e];omega
theorem vea(a b c:Int):R_In a b c=some (decide (b<=a) && decide (a<=c)):=by
 unfold R_In;cases decide (b<=a) <;> rfl
theorem jYa(c:UInt8):q2a c=some (YHa c):=by
 unfold q2a YHa;simp only[vea,jAb,Z8a 97 c (by decide),Z9a 122 c (by decide),Z8a 65 c (by decide),Z9a 90 c (by decide),Z8a 48 c (by decide),Z9a 57 c (by decide)];generalize (decide ((97:UInt8)<=c) && decide (c<=122))=x;generalize (decide ((65:UInt8)<=c) && decide (c<=90))=y;cases x <;> cases y <;> simp
theorem KIa(c:UInt8):wNa c=some (YHa c):=by
 unfold wNa YHa;simp only[Z8a 97 c (by decide),Z9a 122 c (by decide),Z8a 65 c (by decide),Z9a 90 c (by decide),Z8a 48 c (by decide),Z9a 57 c (by decide)];cases decide ((97:UInt8)<=c) <;> cases decide (c<=122) <;> cases decide ((65:UInt8)<=c) <;> cases decide (c<=90) <;> cases decide ((48:UInt8)<=c) <;> cases decide (c<=57) <;> rfl
def yZa(s:Str)(i:Nat):Bool:=if i=0 then true else s[i - 1]? ==some 46
def ypa:Bool->Str->Bool
 | _,[]=>true
 | p,c::r=>if c=46 then !p && !r.isEmpty && ypa true r else y7a c && ypa false r
theorem kXb(p:Bool)(c:UInt8)(r:Str):ypa p (c::r)=if c=46 then !p && !r.isEmpty && ypa true r else y7a c && ypa false r:=rfl
theorem wob(s:Str)(p:Bool)(h:s≠ []∨p=false):ypa p s=(s.all y7a && Z7a p s):=by
 induction s generalizing p with
 | nil=>simp[ypa,Z7a];rcases h with h | h <;> simp_all
 | cons c r ih=>
  unfold ypa Z7a;by_cases hc:c=46
  .subst hc;simp only[if_true,List.all_cons,show y7a 46=true by decide,jDh];cases r with
   | nil=>simp[Z7a]
   | cons d r=>
    rw[ih true (.inl (by simp))];cases p <;> simp
  rw[if_neg hc,if_neg hc];rw[ih false (.inr rfl),List.all_cons,Bool.and_assoc]
theorem YIa(s:Str)(hs:s.length<=9223372036854775806):iter (via s) 0=some (if ypa true s then .inl () else .inr false):=by
 have:=KGa (body:=via s) s (fun i (_:Unit)=>(i:Int)) (fun i r _=>if ypa (yZa s i) r then .inl () else .inr false) (fun _=>by
  unfold via;rw[zCa];simp[ypa]) (fun p c r _ h=>?_) (s0:=0) () rfl
 .simpa[yZa]using this
 have hc:s[p.length]? =some c:=by simp[h]
 have hidx:=zva hc;have hlen:s.length=p.length+r.length+1:=by rw[h];simp;omega
 have e1:w64 ((s.length:Int) - 1)=((s.length - 1:Nat):Int):=by rw[k6a (by omega) (by omega)];omega
 have e2:w64 ((p.length:Int)+1)=((p.length+1:Nat):Int):=by rw[show ((p.length:Int)+1)=((p.length+1:Nat):Int) by omega,Jna _ (by omega)]
 have hbody:via s (p.length:Int)=some (if c=46 then (if yZa s p.length || r.isEmpty then .out (.inr false) else .cont ((p.length+1:Nat):Int)) else if y7a c then .cont ((p.length+1:Nat):Int) else .out (.inr false)):=by
  unfold via;rw[z1a hc,hidx];simp only[cond_true,jAb,vea,jNa c 46 (by decide),YFa c 45 (by decide),YFa c 46 (by decide),Z8a 97 c (by decide),Z9a 122 c (by decide),Z8a 48 c (by decide),Z9a 57 c (by decide),e1,e2];by_cases h46:c=46
  .subst h46;have hsm:(!(decide ((97:UInt8)<=46) && decide ((46:UInt8)<=122)))=true:=by decide
   have hsm2:(!(decide ((48:UInt8)<=46) && decide ((46:UInt8)<=57)))=true:=by decide
   simp only[beq_self_eq_true,cond_true,hsm,hsm2,if_true,bne_self_eq_false];by_cases h0:p.length=0
   .simp[h0,yZa]
   have h0' :((p.length:Int)==0)=false:=by rw[beq_eq_false_iff_ne];omega
   by_cases hl:r=[]
   .subst hl;have:((p.length:Int)==((s.length - 1:Nat):Int))=true:=by rw[hlen];simp
    simp[h0',this]
   have hr:r.isEmpty=false:=by simpa using hl
   have hrl:0 < r.length:=List.length_pos_iff.2 hl;have:((p.length:Int)==((s.length - 1:Nat):Int))=false:=by rw[hlen];simp;omega
   have e3:w64 ((p.length:Int) - 1)=((p.length - 1:Nat):Int):=by rw[k6a (by omega) (by omega)];omega
   have hlt:p.length - 1 < s.length:=by omega
   simp only[h0',this,cond_false,e3,JYa hlt,jAb,hr,Bool.or_false,yZa,if_neg h0,jAh hlt];rw[jNa _ 46 (by decide)];by_cases hd:s[p.length - 1]=46
   .simp[hd]
   have:(s[p.length - 1]==46)=false:=by simpa using hd
   simp[this,hd]
  have h1:(c==46)=false:=by simpa using h46
  have h2:(c !=46)=true:=by simpa using h46
  simp only[h1,cond_false,if_neg h46,jAb,y7a,h2];by_cases ha:(decide ((97:UInt8)<=c) && decide (c<=122))=true
  .simp[ha]
  have ha:(decide ((97:UInt8)<=c) && decide (c<=122))=false:=by simpa using ha
  by_cases hb:(decide ((48:UInt8)<=c) && decide (c<=57))=true
  .simp[ha,hb]
  have hb:(decide ((48:UInt8)<=c) && decide (c<=57))=false:=by simpa using hb
  by_cases h45:c=45
  .subst h45;simp[ha,hb]
  have:(c==45)=false:=by simpa using h45
  simp[ha,hb,this,bne]
 have hp1:yZa s (p.length+1)=decide (c=46):=by
  unfold yZa;simp only[Nat.add_sub_cancel,Nat.add_one_ne_zero,if_false,hc];rw[jAq];simp
 rw[hbody];rw[kXb];by_cases h46:c=46
 .subst h46;simp only[if_true];cases hq:(yZa s p.length || r.isEmpty) with
  | true=>
   left;simp only[if_true];have:(!yZa s p.length && !r.isEmpty && ypa true r)=false:=by
    cases hp:yZa s p.length <;> simp_all
   rw[this];rfl
  | false=>
   right;refine ⟨(),rfl,?_⟩;have h3:yZa s p.length=false:=by cases hp:yZa s p.length <;> simp_all
   have h4:r.isEmpty=false:=by cases hp:r.isEmpty <;> simp_all
   rw[h3,h4,hp1];simp
 simp only[if_neg h46];cases hq:y7a c with
 | true=>right;exact ⟨(),rfl,by rw[hp1];simp[h46]⟩
 | false=>left;simp
theorem Vpa(s:Str)(hs:s.length<=9223372036854775806):jia s=some (domP s):=by
 unfold jia;rw[YIa s hs];by_cases hn:s=[]
 .subst hn;simp[ypa,vea,domP,Z7a]
 rw[wob s true (.inl hn)];have hpos:0 < s.length:=List.length_pos_iff.2 hn;unfold domP;cases h:(s.all y7a && Z7a true s) with
 | false=>
  rw[Bool.and_assoc,h];simp
 | true=>
  rw[Bool.and_assoc,h];simp only[if_true,jAb,vea,Bool.and_true,Sum.elim_inl,Option.some.injEq];rw[jAq];simp;omega
theorem kYb(s:Str)(hs:s.length<=9223372036854775806):JWa s=some ((atP s:Nat):Int):=by
 unfold JWa;rw[zZa s (fun i c=>if c==64 then some (i:Int) else none) (.inl ()) .inr]
 .simp only[jAb];have key:∀(r:Str) (n:Nat),(kda (fun i (c:UInt8)=>if c==64 then some (i:Int) else none) n r).getD ((n+r.length:Nat):Int)=((n+r.findIdx (· ==64):Nat):Int):=by
   intro r;induction r with
   | nil=>intro n;simp[kda]
   | cons c r ih=>
    intro n;unfold kda;rw[List.findIdx_cons];cases hc:(c==64) with
    | true=>simp
    | false=>
     simp only[jAf,if_false,cond_false];have:=ih (n+1);rw[show n+(c::r).length=n+1+r.length by simp;omega,show n+(r.findIdx (· ==64)+1)=n+1+r.findIdx (· ==64) by omega];exact this
  have:=key s 0;rw[jBx,jBx]at this;unfold atP;rw[<-this];cases kda (fun i (c:UInt8)=>if c==64 then some (i:Int) else none) 0 s <;> rfl
 .unfold Vfa;rw[zCa];rfl
 intro i c hc;unfold Vfa;have hi:=zEa hc;rw[z1a hc,zva hc];simp only[cond_true,jAb,jNa c 64 (by decide)];cases c==64 with
 | true=>rfl
 | false=>
  simp only[cond_false,jAf,if_false];rw[show ((i:Int)+1)=((i+1:Nat):Int) by omega,Jna _ (by omega)];rfl
theorem Qxa(s:Str)(hs:s.length<=9223372036854775806):yla s=some (Wba s):=by
 have hat:atP s<=s.length:=List.findIdx_le_length;unfold yla;rw[kYb s hs];simp only[jAb];have hloop:iter (wsa s (atP s:Int)) 0=some ((kda (fun _ c=>if !WIa c then some false else none) 0 (s.take (atP s))).elim (.inl ()) .inr):=by
  refine zZa (s.take (atP s)) _ (Sum.inl ()) Sum.inr ?_ ?_
  .have:((s.take (atP s)).length:Int)=(atP s:Int):=by simp;omega
   unfold wsa;rw[this];simp
  intro i c hc;have hi:=zEa hc;simp at hi;have hc2:s[i]? =some c:=by rw[jAt (by omega)]at hc;exact hc
  unfold wsa;have:decide ((i:Int) < (atP s:Int))=true:=by simp;omega
  rw[this,zva hc2];simp only[cond_true,jAb,jYa,YFa c 45 (by decide),YFa c 95 (by decide),YFa c 46 (by decide),YFa c 43 (by decide),YFa c 61 (by decide)];rw[show ((i:Int)+1)=((i+1:Nat):Int) by omega,Jna _ (by omega)];unfold WIa;cases YHa c <;> cases h1:(c==45) <;> cases h2:(c==95) <;> cases h3:(c==46) <;> cases h4:(c==43) <;> cases h5:(c==61) <;> simp[bne,h1,h2,h3,h4,h5]
 rw[hloop,yoa];unfold Wba;have hall:(s.take (atP s)).any (fun c=> !WIa c)= !((s.take (atP s)).all WIa):=by simp[List.not_all_eq_any_not]
 rw[hall];cases hg:(s.take (atP s)).all WIa with
 | false=>simp
 | true=>
  simp only[jBg,jAf,if_false,jAb,vea,Bool.and_true];by_cases h1:1<=atP s/\atP s<=60
  .have e1:(decide ((1:Int)<=(atP s:Int)) && decide ((atP s:Int)<=60))=true:=by simp;omega
   rw[e1];by_cases h2:atP s < s.length
   .have e2:decide ((atP s:Int) < (s.length:Int))=true:=by simp;omega
    rw[e2];simp only[cond_true];rw[show ((atP s:Int)+1)=((atP s+1:Nat):Int) by omega,Jna _ (by omega),Qwa (by omega)];simp only[jAb];rw[Vpa _ (by simp;omega)];simp[h1,h2]
   have e2:decide ((atP s:Int) < (s.length:Int))=false:=by simp;omega
   rw[e2];simp[h2]
  have e1:(decide ((1:Int)<=(atP s:Int)) && decide ((atP s:Int)<=60))=false:=by
   rw[jDw];simp;omega
  rw[e1];simp only[cond_false,jAb]
  congr 1
  symm
  rcases jBh (atP s) 1 with h | h
  .have:decide (1<=atP s)=false:=by simp;omega
   rw[this];simp
  have:decide (atP s<=60)=false:=by simp;omega
  rw[this];simp
theorem zMb(s:Str):∀p,Z7a p s=(!(p && (s.isEmpty || s.head? ==some 46)) && !(s.getLast? ==some 46) && !Lib.contains s [46,46]):=by
 induction s with
 | nil=>intro p;cases p <;> simp[Z7a,Lib.contains,Lib.index]
 | cons c r ih=>
  intro p;have hcont:Lib.contains (c::r) [46,46]=((c==46 && r.head? ==some 46) || Lib.contains r [46,46]):=by
   unfold Lib.contains;rw[Lib.index];have hpre:([46,46]:List UInt8).isPrefixOf (c::r)=(c==46 && r.head? ==some 46):=by
    cases r with
    | nil=>simp[List.isPrefixOf]
    | cons d r=>simp only[List.isPrefixOf,List.head?_cons,Bool.and_true];rw[jAq];simp;constructor <;> rintro ⟨rfl,rfl⟩ <;> exact ⟨rfl,rfl⟩
   rw[hpre];have hg:=Lib.index_ge r [46,46];cases c==46 && r.head? ==some 46 with
   | true=>simp
   | false=>
    simp only[jAf,if_false,jCy];by_cases h:Lib.index r [46,46]= -1
    .simp[h]
    have:(Lib.index r [46,46]== -1)=false:=by simpa using h
    rw[this];simp only[jAf,if_false];rw[jAq];simp;omega
  rw[hcont,Z7a];have hlast:(c::r).getLast? =if r.isEmpty then some c else r.getLast? :=by cases r <;> simp
  rw[hlast];by_cases hc:c=46
  .subst hc;rw[if_pos rfl,ih true];cases r with
   | nil=>simp
   | cons d r=>cases p <;> cases hd:(d==46) <;> simp_all [Bool.and_comm,Bool.and_assoc,Bool.and_left_comm]
  have h1:(c==46)=false:=by simpa using hc
  have h2:(some c==some (46:UInt8))=false:=by simpa using hc
  rw[if_neg hc,ih false];cases r with
  | nil=>simp[h1,h2,Lib.contains,Lib.index,hc]
  | cons d r=>simp[h1,h2,hc]
theorem Qfa(s t:Str):k4a s t=some (t.isPrefixOf s):=by
 unfold k4a kDa;by_cases h:t.length<=s.length
 .have:decide ((t.length:Int)<=(s.length:Int))=true:=by simp;omega
  rw[this,Vma h];simp only[cond_true,jAb,Option.some.injEq];rw[jAq,beq_iff_eq,jCs,List.prefix_iff_eq_take];constructor <;> exact fun h=>h.symm
 have:decide ((t.length:Int)<=(s.length:Int))=false:=by simp;omega
 rw[this];simp only[cond_false,jAb,Option.some.injEq]
 symm
 rw[jDw];intro hp;exact h (jCs.1 hp).length_le
theorem Qga(s t:Str)(hs:s.length<=9223372036854775806):k5a s t=some (t.isSuffixOf s):=by
 unfold k5a kEa;by_cases h:t.length<=s.length
 .have:decide ((t.length:Int)<=(s.length:Int))=true:=by simp;omega
  rw[this,w64_ns _ _ h (by omega),Qwa (by omega)];simp only[cond_true,jAb,Option.some.injEq];rw[jAq,beq_iff_eq,List.isSuffixOf_iff_suffix,List.suffix_iff_eq_drop];constructor <;> exact fun h=>h.symm
 have:decide ((t.length:Int)<=(s.length:Int))=false:=by simp;omega
 rw[this];simp only[cond_false,jAb,Option.some.injEq]
 symm
 rw[jDw];intro hp;exact h (List.isSuffixOf_iff_suffix.1 hp).length_le
theorem dom_char(c:UInt8):((bif decide ((97:UInt8)<=c) then (bif decide (c<=122) then some true else (bif decide ((48:UInt8)<=c) then (bif decide (c<=57) then some true else (bif (c==45) then some true else some (c==46))) else (bif (c==45) then some true else some (c==46)))) else (bif decide ((48:UInt8)<=c) then (bif decide (c<=57) then some true else (bif (c==45) then some true else some (c==46))) else (bif (c==45) then some true else some (c==46)))):Option Bool)=some (y7a c):=by
 unfold y7a;cases decide ((97:UInt8)<=c) <;> cases decide (c<=122) <;> cases decide ((48:UInt8)<=c) <;> cases decide (c<=57) <;> cases (c==45) <;> rfl
theorem jZa(s:Str)(hs:s.length < 4294967281):q4a s=some (domP s):=by
 have hloop:iter (qIa s) 0=some ((kda (fun _ c=>if !y7a c then some () else none) 0 s).elim (.inl ()) .inr):=by
  refine zZa s _ (Sum.inl ()) Sum.inr ?_ ?_
  .unfold qIa;rw[zCa];rfl
  intro i c hc;have hi:=zEa hc;unfold qIa;rw[z1a hc,zva hc];simp only[cond_true,jAb,jNa c 45 (by decide),jNa c 46 (by decide),Z8a 97 c (by decide),Z9a 122 c (by decide),Z8a 48 c (by decide),Z9a 57 c (by decide),dom_char];rw[show ((i:Int)+1)=((i+1:Nat):Int) by omega,Jna _ (by omega)];cases y7a c <;> rfl
 unfold q4a domP;rw[hloop,yoa,zMb];by_cases hn:s=[]
 .subst hn;simp
 have h1:(s !=([]:Str))=true:=by simpa using hn
 rw[h1];simp only[cond_true];by_cases hl:s.length<=60
 .have h2:decide ((s.length:Int)<=60)=true:=by simp;omega
  rw[h2];have hall:s.any (fun c=> !y7a c)= !(s.all y7a):=by simp[List.not_all_eq_any_not]
  rw[hall];cases hg:s.all y7a with
  | false=>simp[hl]
  | true=>
   simp only[jBg,jAf,if_false,Option.elim,jAb,cond_true,Qfa,Qga s [46] (by omega),qfa,if_pos hs];have hp:([46]:Str).isPrefixOf s=(s.head? ==some 46):=by
    cases s with
    | nil=>rfl
    | cons d r=>simp only[List.isPrefixOf,List.head?_cons,Bool.and_true];rw[jAq];simp;exact ⟨fun h=>h.symm,fun h=>h.symm⟩
   have hsf:([46]:Str).isSuffixOf s=(s.getLast? ==some 46):=by
    rw[jAq,List.isSuffixOf_iff_suffix,beq_iff_eq];constructor
    .rintro ⟨t,rfl⟩;simp
    intro h;obtain ⟨ys,rfl⟩:=List.getLast?_eq_some_iff.1 h;exact ⟨ys,rfl⟩
   have he:s.isEmpty=false:=by simpa using hn
   rw[hp,hsf,he];cases s.head? ==some 46 <;> cases s.getLast? ==some 46 <;> cases Lib.contains s [46,46] <;> simp[hl]
 have h2:decide ((s.length:Int)<=60)=false:=by simp;omega
 rw[h2];simp[hl]
theorem zNb(s:Str):Lib.index s [64]=if atP s < s.length then (atP s:Int) else -1:=by
 rw[Lib.index_one];unfold atP;induction s with
 | nil=>rfl
 | cons c r ih=>
  rw[Lib.indexByte,List.findIdx_cons];cases hc:(c==64) with
  | true=>simp
  | false=>
   simp only[jAf,if_false,cond_false,jCg];rw[ih];by_cases h:r.findIdx (· ==64) < r.length
   .simp only[if_pos h,if_pos (show r.findIdx (· ==64)+1 < r.length+1 by omega)];have:(((r.findIdx (· ==64):Nat):Int)== -1)=false:=by rw[beq_eq_false_iff_ne];omega
    rw[this];simp
   simp only[if_neg h,if_neg (show ¬(r.findIdx (· ==64)+1 < r.length+1) by omega)];simp
theorem cut_at(s:Str):Lib.cut s [64]=if atP s < s.length then (s.take (atP s),s.drop (atP s+1),true) else (s,[],false):=by
 unfold Lib.cut;rw[zNb];by_cases h:atP s < s.length
 .rw[if_pos h,if_pos h,if_pos (by omega)];simp
 rw[if_neg h,if_neg h,if_neg (by omega)]
def J0a(s:Str):Str × Str × Bool:=if atP s < s.length then (s.take (atP s),s.drop (atP s+1),Wba s) else (s,[],false)
theorem yKb(c:UInt8):(YHa c || decide (0<=Lib.indexByte [45,95,46,43,61] c))=WIa c:=by
 unfold WIa;by_cases h1:c=45
 .subst h1;decide
 by_cases h2:c=95
 .subst h2;decide
 by_cases h3:c=46
 .subst h3;decide
 by_cases h4:c=43
 .subst h4;decide
 by_cases h5:c=61
 .subst h5;decide
 rw[beq_eq_false_iff_ne.2 h1,beq_eq_false_iff_ne.2 h2,beq_eq_false_iff_ne.2 h3,beq_eq_false_iff_ne.2 h4,beq_eq_false_iff_ne.2 h5];simp[Lib.indexByte,Ne.symm h1,Ne.symm h2,Ne.symm h3,Ne.symm h4,Ne.symm h5]
theorem ZAa(s:Str)(hs:s.length < 4294967281):vFa s=some (J0a s):=by
 have hloop:∀v:Str × Str × Bool,v.1.length < 4294967281->iter (q5a v) 0=some ((kda (fun _ c=>if !WIa c then some () else none) 0 v.1).elim (.inl ()) .inr):=by
  intro v hv;refine zZa v.1 _ (Sum.inl ()) Sum.inr ?_ ?_
  .unfold q5a;rw[zCa];rfl
  intro i c hc;have hi:=zEa hc;unfold q5a;rw[z1a hc,zva hc];simp only[cond_true,jAb,KIa,koa];rw[show ((i:Int)+1)=((i+1:Nat):Int) by omega,Jna _ (by omega)];have hg:=yKb c;cases hl:YHa c with
  | true=>rw[hl]at hg;simp only[Bool.true_or]at hg;rw[<-hg];rfl
  | false=>rw[hl]at hg;simp only[jCy]at hg;rw[<-hg];cases decide (0<=Lib.indexByte [45,95,46,43,61] c) <;> rfl
 unfold vFa wHa;rw[if_pos hs,cut_at];simp only[jAb];unfold J0a;by_cases h:atP s < s.length
 .simp only[if_pos h,cond_true];rw[hloop _ (by simp;omega),yoa];have hall:(s.take (atP s)).any (fun c=> !WIa c)= !((s.take (atP s)).all WIa):=by simp[List.not_all_eq_any_not]
  simp only[hall];have hlen:(s.take (atP s)).length=atP s:=by simp;omega
  rw[hlen,jZa _ (by simp;omega)];unfold Wba;by_cases h0:atP s=0
  .simp[h0]
  have hne:(s.take (atP s) !=([]:Str))=true:=by
   simp only[bne_iff_ne,ne_eq];intro hx;have:=congrArg List.length hx;rw[hlen]at this;simp at this;omega
  rw[hne];by_cases h60:atP s<=60
  .have e:decide ((atP s:Int)<=60)=true:=by simp;omega
   rw[e];cases (s.take (atP s)).all WIa <;> simp[h,h60] <;> omega
  have e:decide ((atP s:Int)<=60)=false:=by simp;omega
  rw[e];simp[h60]
 simp[if_neg h]
theorem qOb(s:Str):(J0a s).2.2=Wba s:=by
 unfold J0a;by_cases h:atP s < s.length
 .rw[if_pos h]
 rw[if_neg h];unfold Wba;simp[h]
theorem jDa(s:Str)(hs:s.length < 4294967281):qBa s=some (Wba s):=by
 unfold qBa;rw[ZAa s hs];simp[qOb]
abbrev Lft:=Option (List UInt8)
def rdr:Lft->zia
 | none=>⟨[],true⟩
 | some b=>⟨b,false⟩
def cur:Lft->kla
 | none=>⟨[],true⟩
 | some b=>⟨b,false⟩
def pN:Lft->Int × Lft
 | none=>(0,none)
 | some b=>if b.length < 8 then (0,none) else (yIb (b.take 8),some (b.drop 8))
def pT(s:Lft):Str × Lft:=match pN s with
 | (n,some b)=>if 0<=n/\n<=(b.length:Int) then (b.take n.toNat,some (b.drop n.toNat)) else ([],none)
 | (_,none)=>([],none)
theorem vyb:∀(a b:List UInt8),valB (a++b)=valB a+256 ^ a.length * valB b
 | [],b=>by simp[valB]
 | c::a,b=>by
  show c.toNat+256 * valB (a++b)=c.toNat+256 * valB a+256 ^ (a.length+1) * valB b;rw[vyb a b,Nat.pow_succ,Nat.mul_add,jBt,jDn (256 ^ a.length) 256,Nat.mul_assoc]
theorem or_shl(u c i:Nat)(hu:u < 256 ^ i)(hc:c < 256)(hi:i < 8):uOr (u:Int) (uShl (c:Int) (w64 (8 * (i:Int))))=((u+256 ^ i * c:Nat):Int):=by
 have hp:(256:Nat) ^ i=2 ^ (8 * i):=by rw[Nat.pow_mul]
 have hle:256 ^ i * 256<=256 ^ 8:=by rw[<-Nat.pow_succ];exact Nat.pow_le_pow_right (by decide) (by omega)
 have h8:(256:Nat) ^ 8=18446744073709551616:=by decide
 have hcc:256 ^ i * c+256 ^ i<=256 ^ i * 256:=by rw[<-Nat.mul_succ];exact Nat.mul_le_mul_left _ hc
 have hpos:0 < 256 ^ i:=Nat.pow_pos (by decide);have hs:uShl (c:Int) (w64 (8 * (i:Int)))=((256 ^ i * c:Nat):Int):=by
  unfold uShl wu64;rw[k6a (by omega) (by omega),show (8 * (i:Int)).toNat=8 * i by omega,Nat.min_eq_left (by omega)];have h2:((2:Int) ^ (8 * i))=((256 ^ i:Nat):Int):=by
   rw[hp,Int.natCast_pow];rfl
  rw[h2,Int.mul_comm,<-Int.natCast_mul];omega
 rw[hs];unfold uOr;rw[BitVec.toNat_or,BitVec.toNat_ofInt,BitVec.toNat_ofInt];have e1:((u:Int) % ((2 ^ 64:Nat):Int)).toNat=u:=by
  rw[show ((2 ^ 64:Nat):Int)=18446744073709551616 by decide];omega
 have e2:(((256 ^ i * c:Nat):Int) % ((2 ^ 64:Nat):Int)).toNat=256 ^ i * c:=by
  rw[show ((2 ^ 64:Nat):Int)=18446744073709551616 by decide];omega
 rw[e1,e2,Nat.or_comm,hp];rw[hp]at hu;rw[<-Nat.two_pow_add_eq_or_of_lt hu]
 congr 1
 omega
theorem wpb(x:zia){body:Int × Int->Option (Step (Int × Int) Int)}(hb:body=kIa x)(hl:8<=x.b.length):∀(k i:Nat),i+k=8->
 iter body ((valB (x.b.take i):Int),(i:Int))=some (valB (x.b.take 8):Int):=by
 intro k;induction k with
 | zero=>
  intro i hi;obtain rfl:i=8:=by omega
  subst hb;refine zDa ?_;unfold kIa;simp
 | succ k ih=>
  intro i hi;have hx:x.b[i]? =some x.b[i]:=jAh (by omega);generalize x.b[i]=c at hx;have hc:=UInt8.toNat_lt c;have htl:(x.b.take i).length=i:=by rw[jBz];omega
  have hv:=qNb (x.b.take i);rw[htl]at hv;have ht:x.b.take (i+1)=x.b.take i++ [c]:=by
   rw[List.take_add_one,hx];rfl
  have hc:body ((valB (x.b.take i):Int),(i:Int))=some (.cont ((valB (x.b.take (i+1)):Int),((i+1:Nat):Int))):=by
   subst hb;unfold kIa;dsimp only;rw[decide_eq_true (show (i:Int) < 8 by omega),zva hx];have hn:nng (w64 (8 * (i:Int)))=some true:=by
    unfold nng;rw[k6a (by omega) (by omega),if_pos (by omega)]
   simp only[cond_true,jAb,hn,sc i (by omega)];rw[or_shl _ _ i hv hc (by omega),ht,vyb,htl];simp[valB]
  rw[z2a hc];exact ih (i+1) (by omega)
theorem zKa(s:Lft)(h:∀b,s=some b->b.length<=1048576):zHa (rdr s)=some ((pN s).1,rdr (pN s).2):=by
 cases s with
 | none=>rfl
 | some b=>
  have hbl:=h b rfl;unfold zHa pN rdr;dsimp only;by_cases hb:b.length < 8
  .rw[decide_eq_true (show (b.length:Int) < 8 by omega),if_pos hb];rfl
  rw[decide_eq_false (show ¬(b.length:Int) < 8 by omega),if_neg hb];simp only[cond_false];have:=wpb ⟨b,false⟩ rfl (by show 8<=b.length;omega) 8 0 rfl;rw[show iter (kIa ⟨b,false⟩) (0,0)=_ from this];simp only[jAb];rw[show ((8:Int))=((8:Nat):Int) from rfl,Qwa (by omega)];rfl
theorem J1a{s:Lft}{n:Int}{b:List UInt8}(h:pN s=(n,some b)):∃b0,s=some b0/\b.length+8=b0.length/\ok64 n/\b0=num8 n++b:=by
 cases s with
 | none=>cases h
 | some b0=>
  unfold pN at h;dsimp only at h;split at h
  .cases h
  rename_i hb;cases h;have h8:(b0.take 8).length=8:=by rw[jBz];omega
  refine ⟨b0,rfl,by rw[jCc];omega,vxb _,?_⟩;rw[wmb _ h8,List.take_append_drop]
theorem Kaa(n:Int)(h:ok64 n)(b:List UInt8):pN (some (num8 n++b))=(n,some b):=by
 unfold pN;dsimp only;have h8:=kra n;rw[if_neg (by rw[jAl];omega),List.take_left' h8,List.drop_left' h8,Waa n h]
theorem Wwa(s:Str)(h:s.length<=1048576)(b:List UInt8):pT (some (encT s++b))=(s,some b):=by
 unfold pT encT;rw[jAv,Kaa _ (by unfold ok64;omega)];dsimp only;rw[if_pos ⟨by omega,by rw[jAl];omega⟩];simp
theorem J2a{s:Lft}{t:Str}{b:List UInt8}(h:pT s=(t,some b)):∃b0,s=some b0/\b.length+8+t.length=b0.length/\b0=encT t++b:=by
 unfold pT at h;split at h
 .rename_i n b1 hn;obtain ⟨b0,rfl,h1,h2,h3⟩:=J1a hn;split at h
  .rename_i hc;cases h;have hl:(b1.take n.toNat).length=n.toNat:=by rw[jBz];omega
   refine ⟨b0,rfl,by rw[jCc,hl];omega,?_⟩;unfold encT;rw[hl,Int.toNat_of_nonneg hc.1,jAv,List.take_append_drop];exact h3
  cases h
 cases h
theorem pN_none(s:Lft):(pN s).2=none∨∃b b0,(pN s).2=some b/\s=some b0/\b.length+8=b0.length:=by
 cases h:(pN s).2 with
 | none=>exact .inl rfl
 | some b=>
  obtain ⟨b0,h1,h2,_⟩:=J1a (s:=s) (n:=(pN s).1) (b:=b) (by rw[<-h]);exact .inr ⟨b,b0,rfl,h1,h2⟩
def qua(s:Lft):Prop:=∀b,s=some b->b.length<=1048576
theorem kya{s:Lft}(h:qua s):qua (pN s).2:=by
 intro b hb;rcases pN_none s with h1 | ⟨b1,b0,h1,h2,h3⟩
 .rw[h1]at hb;cases hb
 rw[h1]at hb;cases hb;have:=h b0 h2;omega
theorem qda{s:Lft}(h:qua s):qua (pT s).2/\(pT s).1.length<=1048576:=by
 cases hp:(pT s).2 with
 | none=>
  refine ⟨fun b hb=>(by cases hb),?_⟩;unfold pT at hp ⊢;split at hp
  .split at hp
   .cases hp
   rename_i hc;rw[if_neg hc];simp
  simp
 | some b=>
  obtain ⟨b0,h1,h2,_⟩:=J2a (s:=s) (t:=(pT s).1) (b:=b) (by rw[<-hp]);have:=h b0 h1;exact ⟨fun b' hb=>by cases hb;omega,by omega⟩
theorem kga(s:Lft)(h:qua s):z9a (rdr s)=some ((pT s).1,rdr (pT s).2):=by
 have hs:=kya h;unfold z9a pT;rw[zKa s h];simp only[jAb];generalize pN s=q at hs;obtain ⟨n,q2⟩:=q;cases q2 with
 | none=>
  unfold rdr;dsimp only;by_cases hn:n < 0
  .rw[decide_eq_true hn];rfl
  rw[decide_eq_false hn];by_cases h0:n=0
  .subst h0;rfl
  simp only[jCq,cond_false,jAb];rw[decide_eq_true (show ((0:Nat):Int) < n by omega)];rfl
 | some b=>
  have hb:=hs b rfl;unfold rdr;dsimp only;by_cases hc:0<=n/\n<=(b.length:Int)
  .rw[if_pos hc,decide_eq_false (show ¬n < 0 by omega)];simp only[cond_false,jAb];rw[decide_eq_false (show ¬(b.length:Int) < n by omega)];obtain ⟨m,rfl⟩:∃m:Nat,n=(m:Int):=⟨n.toNat,by omega⟩;simp only[cond_false];rw[Vma (by omega),Qwa (by omega)];rfl
  rw[if_neg hc];by_cases hn:n < 0
  .rw[decide_eq_true hn];rfl
  rw[decide_eq_false hn];simp only[cond_false,jAb];rw[decide_eq_true (show (b.length:Int) < n by omega)];rfl
theorem Qya(o:Option Unit)(a b:Bool):Sum.elim (fun _=>some a) (fun _=>some b) (o.elim (Sum.inl ()) Sum.inr:Unit ⊕ Unit)=some (bif o.isSome then b else a):=by cases o <;> rfl
theorem Z0a{α R:Type}(c:α->Bool)(r:R)(l:List α)(n:Nat):(kda (fun _ x=>if c x then some r else none) n l).isSome=l.any c:=by
 rw[yoa];cases l.any c <;> rfl
theorem zOb{α:Type}(l:List α)(p:α->Bool):l.any (fun x=> !p x)= !l.all p:=by simp[List.not_all_eq_any_not]
theorem qTa(a b:Int):R_At a b=some ⟨a,b⟩:=rfl
theorem zQa(a b:Int):zsa a b=some ⟨a,b⟩:=rfl
theorem kLa:ksa=some ⟨0,0⟩:=rfl
theorem kba(f:zpa):z7a f=some (f.Code !=0):=rfl
theorem Wca(o:Option zpa)(f:zpa):Sum.elim (fun _=>some f) (fun b=>some b) (o.elim (Sum.inl ()) Sum.inr:Unit ⊕ zpa)=some (o.getD f):=by cases o <;> rfl
def qPb(c:UInt8):Bool:=YHa c || c==45 || c==95 || c==46
def qQb(s:Str):Bool:=decide (1<=s.length) && decide (s.length<=60) && s.all qPb
theorem qRb(s:Str)(hs:s.length<=1048576):Vga s=some (qQb s):=by
 unfold Vga;rw[zZa s (fun _ c=>if !qPb c then some false else none) (.inl ()) .inr,yoa,zOb]
 .simp only[jAb,vea];unfold qQb;have e1:decide ((1:Int)<=(s.length:Int))=decide (1<=s.length):=by rw[jAq];simp;omega
  have e2:decide ((s.length:Int)<=60)=decide (s.length<=60):=by rw[jAq];simp;omega
  rw[<-e1,<-e2];cases s.all qPb <;> simp
 .unfold ZRa;rw[zCa];rfl
 intro i c hc;have hi:=zEa hc;unfold ZRa;rw[z1a hc,zva hc];simp only[cond_true,jAb,jYa,YFa c 45 (by decide),YFa c 95 (by decide),YFa c 46 (by decide),sc i (by omega)];unfold qPb bne;cases YHa c <;> cases (c==45) <;> cases (c==95) <;> cases (c==46) <;> rfl
theorem zPb(s:Str)(hs:s.length<=1048576):Zma s=some (qQb s):=by
 have hloop:iter (wZa s) 0=some ((kda (fun _ c=>if !qPb c then some () else none) 0 s).elim (.inl ()) .inr):=by
  refine zZa s _ (Sum.inl ()) Sum.inr ?_ ?_
  .unfold wZa;rw[zCa];rfl
  intro i c hc;have hi:=zEa hc;unfold wZa;rw[z1a hc,zva hc];simp only[cond_true,jAb,KIa,jNa c 45 (by decide),jNa c 95 (by decide),jNa c 46 (by decide),sc i (by omega)];unfold qPb;cases YHa c <;> cases (c==45) <;> cases (c==95) <;> cases (c==46) <;> rfl
 unfold Zma qQb;rw[hloop];simp only[jAb,Qya,Z0a,zOb];by_cases hn:s=[]
 .subst hn;rfl
 have h1:(s !=([]:Str))=true:=by simpa using hn
 have h2:decide (1<=s.length)=true:=by have:=List.length_pos_iff.2 hn;simp;omega
 have e2:decide ((s.length:Int)<=60)=decide (s.length<=60):=by rw[jAq];simp;omega
 rw[h1,h2,e2];cases decide (s.length<=60) <;> cases s.all qPb <;> rfl
def yLb(n:Int):Bool:=decide (0<=n) && decide (n<=7)
def recQ(l:List zca)(i:Nat)(r:zca):Option zpa:=
 if !Wba r.Address then some ⟨10,i⟩ else if !yLb r.Notify then some ⟨3,i⟩ else if (l.take i).any (fun x=>x.Address==r.Address) then some ⟨7,i⟩ else none
def recF(l:List zca):zpa:=(kda (recQ l) 0 l).getD ⟨0,0⟩
def fromB(s:Str):Bool:=s !=([]:Str) && !Wba s
def envF(e:zGa):zpa:=if fromB e.From then ⟨10, -10⟩ else if decide (e.To.length < 1) || decide (60 < e.To.length) then ⟨2, -11⟩ else if e.Id !=([]:Str) && !qQb e.Id then ⟨10, -12⟩ else recF e.To
def smallR(l:List zca):Prop:=l.length<=1048576/\∀a∈l,a.Address.length<=1048576
def J3a(e:zGa):Prop:=e.From.length<=1048576/\e.Id.length<=1048576/\smallR e.To
theorem wqb(l:List zca)(s:Str)(hl:l.length<=1048576):YDa l s=some ((kda (fun i x=>if x.Address==s then some ((i:Nat):Int) else none) 0 l).getD (-1)):=by
 unfold YDa;rw[zZa l (fun i x=>if x.Address==s then some ((i:Nat):Int) else none) (.inl ()) .inr]
 .simp only[jAb,Vna]
 .unfold Qba;rw[zCa];rfl
 intro i x hx;have hi:=zEa hx;unfold Qba;rw[z1a hx,zva hx];simp only[cond_true,jAb,sc i (by omega)];cases x.Address==s <;> rfl
theorem Vqa(n:Int):v3a n=some (yLb n):=by unfold v3a yLb;cases decide (0<=n) <;> rfl
theorem vzb(l:List zca)(i:Nat)(s:Str)(hl:l.length<=1048576):decide ((0:Int)<=(kda (fun i x=>if x.Address==s then some ((i:Nat):Int) else none) 0 (l.take i)).getD (-1))=(l.take i).any (fun x=>x.Address==s):=yFb (fun x=>x.Address==s) (l.take i) 0
theorem Vra(e:zGa)(h:J3a e):v2a e=some (envF e):=by
 obtain ⟨h1,h2,h3,h4⟩:=h;unfold v2a envF;rw[Qxa _ (by omega),qRb _ h2];have hloop:iter (qJa e) 0=some ((kda (recQ e.To) 0 e.To).elim (.inl ()) .inr):=by
  refine zZa e.To _ (Sum.inl ()) Sum.inr ?_ ?_
  .unfold qJa;rw[zCa];rfl
  intro i r hr;have hi:=zEa hr;have ha:=h4 r (jAd hr);unfold qJa recQ;rw[z1a hr,zva hr];simp only[cond_true,jAb,Qxa _ (show r.Address.length<=9223372036854775806 by omega),qTa,vea,Vma (Nat.le_of_lt hi),wqb _ _ (show (e.To.take i).length<=1048576 by simp;omega),vzb _ _ _ h3,sc i (by omega)];unfold yLb;cases Wba r.Address <;> cases (decide (0<=r.Notify) && decide (r.Notify<=7)) <;> cases (e.To.take i).any (fun x=>x.Address==r.Address) <;> rfl
 rw[hloop];simp only[jAb,Wca,vea,qTa];have e1:(!(decide ((1:Int)<=(e.To.length:Int)) && decide ((e.To.length:Int)<=60)))=(decide (e.To.length < 1) || decide (60 < e.To.length)):=by generalize e.To.length=n;rw[jAq];simp;omega
 rw[e1];unfold fromB recF;cases e.From !=([]:Str) <;> cases Wba e.From <;> cases (decide (e.To.length < 1) || decide (60 < e.To.length)) <;> cases e.Id !=([]:Str) <;> cases qQb e.Id <;> rfl
theorem Kka(l:List zca)(h:smallR l):qta l=some (recF l):=by
 obtain ⟨h3,h4⟩:=h;unfold qta recF;rw[zZa l (recQ l) (.inl ()) .inr]
 .simp only[jAb,kLa,Wca]
 .unfold qxa;rw[zCa];rfl
 intro i r hr;have hi:=zEa hr;have ha:=h4 r (jAd hr);have hl2:iter (k0a r (l.take i)) 0=some ((kda (fun i x=>if x.Address==r.Address then some ((i:Nat):Int) else none) 0 (l.take i)).elim (.inl ()) .inr):=by
  refine zZa (l.take i) _ (Sum.inl ()) Sum.inr ?_ ?_
  .unfold k0a;rw[zCa];rfl
  intro k x hx;have hk:=zEa hx;simp at hk;unfold k0a;rw[z1a hx,zva hx];simp only[cond_true,jAb,sc k (by omega)];cases x.Address==r.Address <;> rfl
 unfold qxa recQ;rw[z1a hr,zva hr];simp only[cond_true,jAb,jDa _ (show r.Address.length < 4294967281 by omega),zQa,Vqa,Vma (Nat.le_of_lt hi),hl2,Vna,vzb _ _ _ h3,sc i (by omega)];cases Wba r.Address <;> cases yLb r.Notify <;> cases (l.take i).any (fun x=>x.Address==r.Address) <;> rfl
theorem Qha(e:zGa)(h:J3a e):q6a e=some (envF e):=by
 obtain ⟨h1,h2,h3⟩:=h;unfold q6a envF;rw[jDa _ (by omega),zPb _ h2,Kka _ h3];have e1:decide ((e.To.length:Int) < 1)=decide (e.To.length < 1):=by generalize e.To.length=n;rw[jAq];simp;omega
 have e2:decide ((60:Int) < (e.To.length:Int))=decide (60 < e.To.length):=by rw[jAq];simp;omega
 simp only[jAb,zQa,e1,e2];unfold fromB;cases e.From !=([]:Str) <;> cases Wba e.From <;> cases decide (e.To.length < 1) <;> cases decide (60 < e.To.length) <;> cases e.Id !=([]:Str) <;> cases qQb e.Id <;> rfl
theorem yMb{e:zGa}(h:zGa.bk e<=1048576):J3a e:=by
 unfold zGa.bk at h;dsimp only at h;refine ⟨by omega,by omega,?_,fun a ha=>?_⟩
 .have:=YGa (bk:=zca.bk) (fun x=>by unfold zca.bk;omega) e.To;omega
 have h5:=qMb (bk:=zca.bk) ha;have h6:zca.bk a=a.Address.length+1+1+1:=rfl;omega
theorem zQb(s:Str)(i:Nat)(h:i < s.length):(strB s)[i]'(by rw[kJa];exact h)=s[i]:=rfl
theorem yNb(s:Str)(i:Nat)(h:i < s.length):(strB s).get! i=s[i]:=by
 have:=get_at (strB s) i (by rw[kJa];exact h);rw[jCl]at this;rw[this];rfl
theorem J4a{s:Str}{i:Nat}{c:UInt8}(h:s[i]? =some c)(hc:c.toNat < 128):Qsa s i=(c.toNat:Int)/\Zja s i=1:=by
 have hi:=zEa h;have e:s[i]=c:=by rw[jAh hi]at h;exact Option.some.inj h
 have hd:=decode_ascii (strB s) i (by rw[kJa];exact hi) (by rw[zQb s i hi,e];exact hc);unfold Qsa Zja;rw[hd,zQb s i hi,e];exact ⟨rfl,rfl⟩
theorem yOb{s:Str}{i:Nat}{c:UInt8}(h:s[i]? =some c)(hc:128<=c.toNat):128<=Qsa s i/\Qsa s i<=2147483647/\1<=Zja s i:=by
 have hi:=zEa h;have e:s[i]=c:=by rw[jAh hi]at h;exact Option.some.inj h
 have hd:=decode_high (strB s) i (by rw[kJa];exact hi) (by rw[zQb s i hi,e];exact hc);have hl:=decode_le (strB s) i;unfold Qsa Zja;exact ⟨by omega,by omega,hd.2⟩
theorem qSb(s:ByteArray)(pos:Nat):∀k,1<=k->k < (Utf8.decode s pos).2->(s.get! (pos+k)).toNat / 64=2:=by
 intro k h1 h2;simp only[Utf8.decode]at h2;repeat' split at h2
 all_goals first
  | (exfalso;simp at h2;omega)
  | (
   rename_i hq _;simp only[jAs,decide_eq_true_eq,beq_iff_eq]at hq;have h2:k < 2:=h2;obtain rfl:k=1:=by omega
   exact hq.2.2)
  | (
   rename_i hq _;simp only[jAs,decide_eq_true_eq,beq_iff_eq]at hq;have h2:k < 3:=h2;have:k=1∨k=2:=by omega
   rcases this with rfl | rfl
   .exact hq.1.2.2
   exact hq.2.2)
  | (
   rename_i hq _;simp only[jAs,decide_eq_true_eq,beq_iff_eq]at hq;have h2:k < 4:=h2;have:k=1∨k=2∨k=3:=by omega
   rcases this with rfl | rfl | rfl
   .exact hq.1.1.2.2
   .exact hq.1.2.2
   exact hq.2.2)
theorem yPb{s:Str}{i j:Nat}{c d:UInt8}(h:s[i]? =some c)(hc:128<=c.toNat)(h1:i<=j)(h2:j < i+Zja s i)(hj:s[j]? =some d):128<=d.toNat:=by
 by_cases e:j=i
 .subst e;rw[h]at hj;cases hj;exact hc
 have hjl:=zEa hj;have e2:s[j]=d:=by rw[jAh hjl]at hj;exact Option.some.inj hj
 have:=qSb (strB s) i (j - i) (by omega) (by unfold Zja at h2;omega);rw[show i+(j - i)=j by omega,yNb s j hjl,e2]at this;omega
theorem toU8_nat(c:UInt8):toU8 (c.toNat:Int)=c:=by
 unfold toU8;have:=c.toNat_lt;rw[show ((c.toNat:Int) % 256).toNat=c.toNat by omega];simp
theorem J5a{t:Str}(h:JXa t=true){c:UInt8}(hc:c∈t):c.toNat < 128:=by
 unfold JXa at h;rw[jAx]at h;simpa using h c hc
theorem wrb{r:Int}(h:128<=r):∃m x,1<=m/\m<=3/\(yDa r).length=m+1/\(yDa r)[m]? =some x/\128<=x.toNat:=by
 unfold yDa;simp only[Utf8.encode];have hc:128<=(if Utf8.valid r=true then r.toNat else Utf8.runeError):=by
  split
  .omega
  decide
 generalize (if Utf8.valid r=true then r.toNat else Utf8.runeError)=c at hc;have hb:∀n:Nat,128<=(UInt8.ofNat (128+n % 64)).toNat:=by
  intro n;rw[jDd];have:(128+n % 64) % 2 ^ 8=128+n % 64:=jCz (by omega);rw[this];omega
 rw[if_neg (by omega)];split
 .exact ⟨1,_,by omega,by omega,rfl,rfl,hb c⟩
 split
 .exact ⟨2,_,by omega,by omega,rfl,rfl,hb c⟩
 exact ⟨3,_,by omega,by omega,rfl,rfl,hb c⟩
theorem Joa{t:Str}(h:∀c∈t,c.toNat < 128){x:UInt8}(hx:128<=x.toNat):Lib.indexByte t x= -1:=by
 have hc:=Lib.contains_iff_indexByte t x;have hn:t.contains x=false:=by
  rw[jDw];intro hm;have:=h x (by simpa using hm);omega
 rw[hn]at hc;have hge:=Lib.indexByte_ge t x;have:=of_decide_eq_false hc.symm;omega
theorem YJa(t:Str)(c:UInt8)(hc:c.toNat < 128):kOa t (c.toNat:Int)=some (Lib.indexByte t c):=by
 unfold kOa;have h1:decide ((0:Int)<=(c.toNat:Int))=true:=by simp
 have h2:decide ((c.toNat:Int) < 128)=true:=by simp;omega
 rw[h1,h2];simp only[cond_true,jAb,toU8_nat];rfl
theorem Jpa(t:Str)(r:Int)(hr:128<=r)(ht:∀c∈t,c.toNat < 128)(hl:t.length<=4294967281):kOa t r=some (-1):=by
 unfold kOa;have h1:decide ((0:Int)<=r)=true:=by simp;omega
 have h2:decide (r < 128)=false:=by simp;omega
 rw[h1,h2];simp only[cond_true,cond_false,jAb];cases hq:r==65533 with
 | true=>
  simp only[cond_true];obtain ⟨o,ho,rfl⟩:=zLb (body:=qWa t) (fun i=>i<=t.length) (fun i=>t.length - i) (fun _ o=>o=.inl ()) (fun i hi=>by
   unfold qWa;by_cases hlt:i < t.length
   .right;have hg:t[i]? =some t[i]:=jAh hlt;have hc:=ht t[i] (List.getElem_mem hlt);obtain ⟨e1,e2⟩:=J4a hg hc;rw[e1,e2,decide_eq_true hlt];have hne:((t[i].toNat:Int)==65533)=false:=by rw[beq_eq_false_iff_ne];omega
    rw[hne];exact ⟨i+1,rfl,by omega,by omega,fun _ h=>h⟩
   left;rw[decide_eq_false hlt];exact ⟨.inl (),rfl,rfl⟩) 0 (jCp _)
  rw[ho];rfl
 | false=>
  simp only[cond_false];have hv:∃b,kZa r=some b:=by
   unfold kZa;cases decide (0<=r) <;> cases decide (r < 55296) <;> cases decide (57343 < r) <;> cases decide (r<=1114111) <;> exact ⟨_,rfl⟩
  obtain ⟨b,hb⟩:=hv;rw[hb];simp only[jAb];cases b with
  | false=>rfl
  | true=>
   simp only[jBg,cond_false];obtain ⟨m,x,hm1,hm3,hlen,hx,hx128⟩:=wrb hr;have hst:w64 (((yDa r).length:Int) - 1)=(m:Int):=by rw[hlen,k6a (by omega) (by omega)];omega
   rw[hst];have hbody:∃o,qYa t r (m:Int)=some (.out o)/\(o=.inl ()∨o=.inr (-1)):=by
    unfold qYa;by_cases hlt:m < t.length
    .have hd:decide ((m:Int) < (t.length:Int))=true:=by simp;omega
     have hc:=ht t[m] (List.getElem_mem hlt);rw[hd,hst,JYa hlt,zva hx];have hne:((t[m].toNat:Int) !=(x.toNat:Int))=true:=by simp;omega
     simp only[cond_true,jAb,hne];rw[show (m:Int)+1=((m+1:Nat):Int) by omega,Jna _ (by omega),Qwa (by omega)];simp only[jAb];have hib:koa (t.drop (m+1)) x=some (-1):=by
      show some (Lib.indexByte (t.drop (m+1)) x)=_;rw[Joa (fun c hc=>ht c (jDj hc)) hx128]
     rw[hib];exact ⟨.inr (-1),rfl,.inr rfl⟩
    have hd:decide ((m:Int) < (t.length:Int))=false:=by simp;omega
    rw[hd];exact ⟨.inl (),rfl,.inl rfl⟩
   obtain ⟨o,ho,ho2⟩:=hbody;rw[zDa ho];rcases ho2 with rfl | rfl <;> rfl
theorem kZb(s t:Str)(h8:s.length<=8)(h2:2<=t.length)(hl:t.length < 4294967281)(ht:JXa t=true):wla s t=some (Lib.indexAny s t):=by
 have htc:∀c∈t,c.toNat < 128:=fun c hc=>J5a ht hc
 unfold wla;have e1:(t==([]:Str))=false:=by rw[beq_eq_false_iff_ne];rintro rfl;simp at h2
 have e2:((t.length:Int)==1)=false:=by rw[beq_eq_false_iff_ne];omega
 have e3:kea (s.length:Int)=some false:=by unfold kea;simp;omega
 rw[e1,e2,e3];simp only[cond_false,jAb];obtain ⟨o,ho,ho2⟩:=zLb (body:=qZa s t) (fun i=>Lib.NoAny s t i) (fun i=>s.length - i) (fun _ o=>Sum.elim (fun _=>some (-1)) (fun b=>some b) o=some (Lib.indexAny s t)) (fun i hi=>by
  unfold qZa;by_cases hlt:i < s.length
  .have hg:s[i]? =some s[i]:=jAh hlt;rw[decide_eq_true hlt];simp only[cond_true];by_cases hc:s[i].toNat < 128
   .obtain ⟨q1,q2⟩:=J4a hg hc;rw[q1,q2,YJa t _ hc];simp only[jAb];have hcon:=Lib.contains_iff_indexByte t s[i];rw[<-hcon];cases hin:t.contains s[i] with
    | true=>
     left;exact ⟨.inr (i:Int),rfl,by rw[Lib.indexAny_hit hi hg hin];rfl⟩
    | false=>
     right;exact ⟨i+1,rfl,hi.succ hg hin,by omega,fun _ h=>h⟩
   have hc:128<=s[i].toNat:=by omega
   obtain ⟨q1,q2,q3⟩:=yOb hg hc;rw[Jpa t _ q1 htc (by omega)];right;refine ⟨i+Zja s i,rfl,fun j b hj hb=>?_,by omega,fun _ h=>h⟩;by_cases hji:j < i
   .exact hi j b hji hb
   have:=yPb hg hc (by omega) hj hb;rw[jDw];intro hm;have:=htc b (by simpa using hm);omega
  left;rw[decide_eq_false hlt];refine ⟨.inl (),rfl,?_⟩;have hn:Lib.NoAny s t s.length:=fun j b hj hb=>hi j b (by omega) hb
  rw[Lib.indexAny_none hn];rfl) 0 (Lib.NoAny.zero s t)
 rw[ho];exact ho2
theorem k0b(t:Str):∀s:Str,decide (0<=Lib.indexAny s t)=s.any fun c=>t.contains c:=by
 intro s;induction s with
 | nil=>rfl
 | cons c s ih=>
  have hge:=Lib.indexAny_ge t s;rw[jDt,<-ih,Lib.indexAny];cases t.contains c with
  | true=>simp
  | false=>
   simp only[jAf,if_false,jCy];by_cases h:Lib.indexAny s t= -1
   .simp[h]
   have:(Lib.indexAny s t== -1)=false:=by simpa using h
   rw[this];simp only[jAf,if_false];rw[jAq];simp;omega
theorem Kla(s t:Str)(hs:s.length<=1048576)(h2:2<=t.length)(hl:t.length<=1048576)(ht:JXa t=true):kNa s t=some (s.any fun c=>t.contains c):=by
 unfold kNa qAa;rw[if_pos ⟨by omega,by omega,h2,ht⟩];simp only[jAb,k0b]
def y8a(c:UInt8):Bool:=c==32 || c==9
theorem J6a(c:UInt8):w2a c=some (y8a c):=by
 unfold w2a y8a;rw[jNa c 32 (by decide),jNa c 9 (by decide)];cases c==32 <;> rfl
theorem Qza(c:UInt8):v4a c=some (y8a c):=by
 unfold v4a y8a;rw[jNa c 32 (by decide),jNa c 9 (by decide)];cases c==32 <;> rfl
def fnC(c:UInt8):Bool:=decide (33<=c) && decide (c<=126) && c !=58
def fnP(s:Str):Bool:=s !=([]:Str) && decide (s.length<=60) && s.all fnC
theorem dec60(s:Str):decide ((s.length:Int)<=60)=decide (s.length<=60):=by generalize s.length=n;rw[jAq];simp;omega
theorem k1b(s:Str)(hs:s.length<=1048576):KBa s=some (fnP s):=by
 have hloop:iter (yKa s) 0=some ((kda (fun _ c=>if !fnC c then some () else none) 0 s).elim (.inl ()) .inr):=by
  refine zZa s _ (Sum.inl ()) Sum.inr ?_ ?_
  .unfold yKa;rw[zCa];rfl
  intro i c hc;have hi:=zEa hc;unfold yKa;rw[z1a hc,zva hc];simp only[cond_true,jAb,YFa c 58 (by decide),Z8a 33 c (by decide),Z9a 126 c (by decide),sc i (by omega)];unfold fnC;cases decide ((33:UInt8)<=c) <;> cases decide (c<=126) <;> cases c !=58 <;> rfl
 unfold KBa fnP;rw[hloop];simp only[jAb,Qya,Z0a,zOb,dec60];cases s !=([]:Str) <;> cases decide (s.length<=60) <;> cases s.all fnC <;> rfl
def endC(c:UInt8):Bool:=c==13 || c==10 || c==0
theorem k2b(s:Str)(hs:s.length<=1048576):KCa s=some (s.any endC):=by
 unfold KCa;rw[Kla s _ hs (by decide) (by decide) (by decide)];simp only[jAb,Option.some.injEq]
 congr 1
 funext c;rw[jAq];simp[endC,or_assoc]
def yQb(s:Str):Bool:=match s.head?,s.getLast? with | some a,some b=>y8a a || y8a b | _,_=>false
def valP(s:Str):Bool:= !(s.any endC) && !(yQb s)
theorem vAb(s:Str)(h:s≠ [])(hs:s.length<=1048576):∃a b,idx s 0=some a/\idx s (w64 ((s.length:Int) - 1))=some b/\s.head? =some a/\s.getLast? =some b:=by
 have hpos:=List.length_pos_iff.2 h;obtain ⟨a,r,rfl⟩:=List.exists_cons_of_ne_nil h;have e:w64 (((a::r).length:Int) - 1)=((r.length:Nat):Int):=by
  have hl:(a::r).length=r.length+1:=rfl;rw[k6a (by omega) (by omega)];omega
 refine ⟨a,(a::r).getLast h,rfl,?_,rfl,List.getLast?_eq_some_getLast h⟩;rw[e,V9a,List.getLast_eq_getElem h,jAh (by simp)]
 congr 2
theorem zRb(s:Str)(hs:s.length<=1048576):Zoa s=some (valP s):=by
 unfold Zoa valP;rw[k2b s hs];simp only[jAb];by_cases hn:s=[]
 .subst hn;rfl
 obtain ⟨a,b,h1,h2,h3,h4⟩:=vAb s hn hs;have e:(s==([]:Str))=false:=by simpa using hn
 unfold yQb;rw[h1,h2,h3,h4,e];simp only[jAb,Qza,cond_false];cases s.any endC <;> cases y8a a <;> cases y8a b <;> rfl
def br(t:Str)(f i:Nat):Bool:=decide (1<=i) && decide (f<=i) && (match t[i]?,t[i - 1]? with | some a,some b=>y8a a && !y8a b | _,_=>false)
def Wda(t:Str)(f:Nat):Nat->Nat
 | 0=>0
 | i+1=>if br t f (i+1) then i+1 else Wda t f i
def zSb(t:Str)(f:Nat):Nat->Nat->Nat
 | 0,_=>0
 | n+1,i=>if br t f i then i else zSb t f n (i+1)
def cutP(t:Str)(f:Nat):Nat:=if Wda t f 78=0 then zSb t f (t.length - 79) 79 else Wda t f 78
def qTb(t:Str)(f c:Nat):Prop:=(c=0/\∀j,br t f j=false)∨(br t f c=true/\((c<=78/\∀j,c < j->j<=78->br t f j=false)∨(78 < c/\∀j,j < c->br t f j=false)))
theorem yRb(t:Str)(f:Nat):br t f 0=false:=rfl
theorem qUb{t:Str}{f i:Nat}(h:br t f i=true):i < t.length/\1<=i/\f<=i:=by
 unfold br at h;simp only[jAs,decide_eq_true_eq]at h;obtain ⟨⟨h1,h2⟩,h3⟩:=h;refine ⟨?_,h1,h2⟩;cases hi:t[i]? with
 | none=>rw[hi]at h3;simp at h3
 | some a=>exact zEa hi
theorem k3b{t:Str}{f c d:Nat}(h:qTb t f c)(k:qTb t f d):c=d:=by
 rcases h with ⟨rfl,h⟩ | ⟨hc,h⟩ <;> rcases k with ⟨rfl,k⟩ | ⟨hd,k⟩
 .rfl
 .rw[h]at hd;cases hd
 .rw[k]at hc;cases hc
 rcases Nat.lt_trichotomy c d with hlt | heq | hgt
 .exfalso;rcases h with ⟨h1,h2⟩ | ⟨h1,h2⟩ <;> rcases k with ⟨k1,k2⟩ | ⟨k1,k2⟩
  .rw[h2 d hlt k1]at hd;cases hd
  .rw[k2 c hlt]at hc;cases hc
  .omega
  rw[k2 c hlt]at hc;cases hc
 .exact heq
 exfalso;rcases h with ⟨h1,h2⟩ | ⟨h1,h2⟩ <;> rcases k with ⟨k1,k2⟩ | ⟨k1,k2⟩
 .rw[k2 c hgt h1]at hc;cases hc
 .omega
 .rw[h2 d hgt]at hd;cases hd
 rw[h2 d hgt]at hd;cases hd
theorem wsb(t:Str)(f:Nat):∀n,(Wda t f n=0/\∀j,j<=n->br t f j=false)∨(br t f (Wda t f n)=true/\Wda t f n<=n/\∀j,Wda t f n < j->j<=n->br t f j=false):=by
 intro n;induction n with
 | zero=>left;exact ⟨rfl,fun j hj=>by
  obtain rfl:j=0:=by omega
  exact yRb t f⟩
 | succ n ih=>
  unfold Wda;by_cases h:br t f (n+1)=true
  .rw[if_pos h];right;exact ⟨h,jBb _,fun j h1 h2=>by omega⟩
  rw[if_neg h];rcases ih with ⟨h1,h2⟩ | ⟨h1,h2,h3⟩
  .left;refine ⟨h1,fun j hj=>?_⟩;by_cases e:j=n+1
   .subst e;simpa using h
   exact h2 j (by omega)
  right;refine ⟨h1,by omega,fun j hj hjn=>?_⟩;by_cases e:j=n+1
  .subst e;simpa using h
  exact h3 j hj (by omega)
theorem wtb(t:Str)(f:Nat):∀n i,(zSb t f n i=0/\∀j,i<=j->j < i+n->br t f j=false)∨(br t f (zSb t f n i)=true/\i<=zSb t f n i/\∀j,i<=j->j < zSb t f n i->br t f j=false):=by
 intro n;induction n with
 | zero=>intro i;left;exact ⟨rfl,fun j h1 h2=>by omega⟩
 | succ n ih=>
  intro i;unfold zSb;by_cases h:br t f i=true
  .rw[if_pos h];right;exact ⟨h,jBb _,fun j h1 h2=>by omega⟩
  rw[if_neg h];have hb:br t f i=false:=by simpa using h
  rcases ih (i+1) with ⟨h1,h2⟩ | ⟨h1,h2,h3⟩
  .left;refine ⟨h1,fun j hj hjn=>?_⟩;by_cases e:j=i
   .subst e;exact hb
   exact h2 j (by omega) (by omega)
  right;refine ⟨h1,by omega,fun j hj hjn=>?_⟩;by_cases e:j=i
  .subst e;exact hb
  exact h3 j (by omega) hjn
theorem ySb(t:Str)(f:Nat):qTb t f (cutP t f):=by
 unfold cutP;rcases wsb t f 78 with ⟨h1,h2⟩ | ⟨h1,h2,h3⟩
 .rw[if_pos h1];rcases wtb t f (t.length - 79) 79 with ⟨k1,k2⟩ | ⟨k1,k2,k3⟩
  .left;refine ⟨k1,fun j=>?_⟩;by_cases hj:j<=78
   .exact h2 j hj
   cases hb:br t f j with
   | false=>rfl
   | true=>have:=(qUb hb).1;rw[k2 j (by omega) (by omega)]at hb;cases hb
  right;refine ⟨k1,.inr ⟨by omega,fun j hj=>?_⟩⟩;by_cases hj2:j<=78
  .exact h2 j hj2
  exact k3 j (by omega) hj
 have hne:Wda t f 78≠0:=by intro h;rw[h,yRb]at h1;cases h1
 rw[if_neg hne];exact .inr ⟨h1,.inl ⟨h2,h3⟩⟩
theorem Qca{t:Str}{f:Nat}(h:cutP t f≠0):1<=cutP t f/\cutP t f < t.length:=by
 rcases ySb t f with ⟨h1,_⟩ | ⟨h1,_⟩
 .exact absurd h1 h
 exact ⟨(qUb h1).2.1,(qUb h1).1⟩
theorem br_at{t:Str}{f i:Nat}(h1:1<=i)(hi:i < t.length):br t f i=(decide (f<=i) && (y8a t[i] && !y8a (t[i - 1]'(by omega)))):=by
 unfold br;rw[jAh hi,jAh (show i - 1 < t.length by omega)];simp[h1]
def PInv(t:Str)(f b i:Nat):Prop:=f<=i/\1<=i/\((b=0/\∀j,j < i->br t f j=false)∨(br t f b=true/\b < i/\((b<=78/\∀j,b < j->j < i->br t f j=false)∨(78 < b/\∀j,j < b->br t f j=false))))
theorem PInv.done{t:Str}{f b i:Nat}(h:PInv t f b i)(hi:0 < b/\78 < i∨t.length<=i):qTb t f b:=by
 obtain ⟨hf,h1,h2⟩:=h;rcases h2 with ⟨rfl,h3⟩ | ⟨h3,h4,h5⟩
 .left;refine ⟨rfl,fun j=>?_⟩;cases hb:br t f j with
  | false=>rfl
  | true=>
   have:=(qUb hb).1;rw[h3 j (by omega)]at hb;cases hb
 right;refine ⟨h3,?_⟩;rcases h5 with ⟨h6,h7⟩ | h6
 .left;refine ⟨h6,fun j hj hj2=>?_⟩;cases hb:br t f j with
  | false=>rfl
  | true=>
   have:=(qUb hb).1;rw[h7 j hj (by omega)]at hb;cases hb
 exact .inr h6
theorem zTb(t:Str)(f:Nat)(ht:t.length<=4194304)(hf:f<=4194304):Zpa t (f:Int)=some ((cutP t (max f 1):Nat):Int):=by
 unfold Zpa;have hstart:max (f:Int) 1=((max f 1:Nat):Int):=by omega
 rw[hstart];obtain ⟨r,h1,b,rfl,h2⟩:=zLb (body:=jda t) (fun s=>∃b i:Nat,s=((b:Int),(i:Int))/\PInv t (max f 1) b i/\i<=4194305) (fun s=>(4194306 - s.2).toNat) (fun _ r=>∃c:Nat,r=(c:Int)/\qTb t (max f 1) c) (by
  rintro _ ⟨b,i,rfl,hI,hil⟩;have hi1:=hI.2.1;unfold jda;dsimp only;by_cases hlt:i < t.length
  .have hd:decide ((i:Int) < (t.length:Int))=true:=by simp;omega
   have hpre:w64 ((i:Int) - 1)=((i - 1:Nat):Int):=by rw[k6a (by omega) (by omega)];omega
   rw[hd,JYa hlt,hpre,JYa (show i - 1 < t.length by omega)];have hb:=br_at (f:=max f 1) hi1 hlt;have hfi:decide (max f 1<=i)=true:=by simp only[decide_eq_true_eq];exact hI.1
   rw[hfi,jDh]at hb;simp only[cond_true,jAb,Qza];have next:∀b' :Nat,PInv t (max f 1) b' (i+1)->vja ((b:Int),(i:Int)) (b' :Int)=some (.cont ((b' :Int),((i+1:Nat):Int))):=by
    intro b' _;unfold vja;dsimp only;rw[sc i (by omega)]
   have hno:br t (max f 1) i=false->PInv t (max f 1) b (i+1):=by
    intro hnb;refine ⟨by have:=hI.1;omega,by omega,?_⟩;rcases hI.2.2 with ⟨q1,q2⟩ | ⟨q1,q2,q3⟩
    .left;refine ⟨q1,fun j hj=>?_⟩;by_cases e:j=i
     .subst e;exact hnb
     exact q2 j (by omega)
    right;refine ⟨q1,by omega,?_⟩;rcases q3 with ⟨q4,q5⟩ | q4
    .left;refine ⟨q4,fun j hj hj2=>?_⟩;by_cases e:j=i
     .subst e;exact hnb
     exact q5 j hj (by omega)
    exact .inr q4
   have goNo:br t (max f 1) i=false->(∃s',vja ((b:Int),(i:Int)) (b:Int)=some (.cont s')/\(∃b i:Nat,s' =((b:Int),(i:Int))/\PInv t (max f 1) b i/\i<=4194305)/\(4194306 - s'.2).toNat < (4194306 - ((i:Int))).toNat/\∀r:Int,(∃c:Nat,r=(c:Int)/\qTb t (max f 1) c)->∃c:Nat,r=(c:Int)/\qTb t (max f 1) c):=by
    intro hnb;exact ⟨_,next b (hno hnb),⟨b,i+1,rfl,hno hnb,by omega⟩,by dsimp only;omega,fun _ h=>h⟩
   cases ha:y8a t[i] with
   | false=>
    rw[ha]at hb;simp only[jDb,cond_true,jAb];exact .inr (goNo hb)
   | true=>
    rw[ha]at hb;simp only[jBg,cond_false,jAb];cases hp:y8a t[i - 1] with
    | true=>
     rw[hp]at hb;simp only[cond_true];exact .inr (goNo hb)
    | false=>
     rw[hp]at hb;have hb:br t (max f 1) i=true:=hb;simp only[cond_false];by_cases hb0:0 < b/\78 < i
     .left;have e1:decide ((0:Int) < (b:Int))=true:=by simp;omega
      have e2:decide ((78:Int) < (i:Int))=true:=by simp;omega
      rw[e1,e2];exact ⟨(b:Int),rfl,b,rfl,hI.done (.inl hb0)⟩
     right;have e:(bif decide ((0:Int) < (b:Int)) then some (decide ((78:Int) < (i:Int))) else some false)=some false:=by
      by_cases h0:0 < b
      .have e1:decide ((0:Int) < (b:Int))=true:=by simp;omega
       have e2:decide ((78:Int) < (i:Int))=false:=by simp;omega
       rw[e1,e2];rfl
      have e1:decide ((0:Int) < (b:Int))=false:=by simp;omega
      rw[e1];rfl
     rw[e];simp only[jAb,cond_false];have hnew:PInv t (max f 1) i (i+1):=by
      refine ⟨by have:=hI.1;omega,by omega,.inr ⟨hb,by omega,?_⟩⟩;by_cases h78:i<=78
      .exact .inl ⟨h78,fun j h1 h2=>by omega⟩
      right;refine ⟨by omega,?_⟩;rcases hI.2.2 with ⟨q1,q2⟩ | ⟨q1,q2,q3⟩
      .exact q2
      exfalso;have:=(qUb q1).2.1;omega
     exact ⟨_,next i hnew,⟨i,i+1,rfl,hnew,by omega⟩,by dsimp only;omega,fun _ h=>h⟩
  left;have hd:decide ((i:Int) < (t.length:Int))=false:=by simp;omega
  rw[hd];exact ⟨(b:Int),rfl,b,rfl,hI.done (.inr (by omega))⟩) ((0:Int),((max f 1:Nat):Int)) ⟨0,max f 1,rfl,⟨jBb _,by omega,.inl ⟨rfl,fun j hj=>by
  cases hb:br t (max f 1) j with
  | false=>rfl
  | true=>have:=(qUb hb).2.2;omega⟩⟩,by omega⟩
 rw[h1];simp only[jAb];rw[k3b h2 (ySb t (max f 1))]
theorem R_cut_eq(t:Str)(f:Nat)(out:List Str)(ht:t.length<=4194304)(h78:78 < t.length)(hf:f<=4194304)(h1f:1<=f):((iter (qba (t,(f:Int),out)) (0,78)).bind fun b10=>iter (kSa (t,(f:Int),out)) (b10,79))=some ((cutP t f:Nat):Int):=by
 have test:∀i:Nat,1<=i->i < t.length->((bif decide ((f:Int)<=(i:Int)) then (idx t (i:Int)).bind fun v18=>(w2a v18).bind fun v20=>(bif v20 then (idx t ((w64 ((i:Int) - 1)))).bind fun v23=>(w2a v23).bind fun v25=>some ((!v25)) else some false) else some false):Option Bool)=some (br t f i):=by
  intro i h1 h2;have hpre:w64 ((i:Int) - 1)=((i - 1:Nat):Int):=by rw[k6a (by omega) (by omega)];omega
  rw[br_at h1 h2,JYa h2,hpre,JYa (show i - 1 < t.length by omega)];have e:decide ((f:Int)<=(i:Int))=decide (f<=i):=by rw[jAq];simp
  rw[e];simp only[jAb,J6a];cases decide (f<=i) <;> cases y8a t[i] <;> rfl
 have hdn:∀i:Nat,i<=78->iter (qba (t,(f:Int),out)) (0,(i:Int))=some ((Wda t f i:Nat):Int):=by
  intro i;induction i with
  | zero=>intro _;exact zDa (by unfold qba;rfl)
  | succ i ih=>
   intro hi;have hb:qba (t,(f:Int),out) (0,((i+1:Nat):Int))=some (.cont ((bif br t f (i+1) then ((i+1:Nat):Int) else 0),(i:Int))):=by
    unfold qba;dsimp only;have e1:decide ((0:Int) < ((i+1:Nat):Int))=true:=by rw[decide_eq_true_eq];omega
    have e2:w64 (((i+1:Nat):Int) - 1)=(i:Int):=by rw[k6a (by omega) (by omega)];omega
    rw[test (i+1) (by omega) (by omega),e1,e2];simp only[beq_self_eq_true,cond_true,jAb];cases br t f (i+1) <;> rfl
   rw[z2a hb];unfold Wda;cases hq:br t f (i+1) with
   | false=>simpa using ih (by omega)
   | true=>
    simp only[cond_true,if_true];refine zDa ?_;unfold qba;dsimp only;have e3:((((i+1:Nat):Int))==0)=false:=by rw[beq_eq_false_iff_ne];omega
    rw[e3];cases decide ((0:Int) < (i:Int)) <;> rfl
 have h1:=hdn 78 (by omega);have e78:((78:Nat):Int)=78:=rfl;rw[e78]at h1;rw[h1];simp only[jAb];have hout:∀(c i:Nat),c≠0->iter (kSa (t,(f:Int),out)) ((c:Int),(i:Int))=some ((c:Nat):Int):=by
  intro c i hc;refine zDa ?_;unfold kSa;dsimp only;have e3:((c:Int)==0)=false:=by rw[beq_eq_false_iff_ne];omega
  rw[e3];cases decide ((i:Int) < (t.length:Int)) <;> rfl
 have hup:∀n i:Nat,i+n=t.length->1<=i->iter (kSa (t,(f:Int),out)) (0,(i:Int))=some ((zSb t f n i:Nat):Int):=by
  intro n;induction n with
  | zero=>
   intro i hi _;refine zDa ?_;unfold kSa;dsimp only;have:decide ((i:Int) < (t.length:Int))=false:=by rw[decide_eq_false_iff_not];omega
   rw[this];rfl
  | succ n ih=>
   intro i hi h1i;have hb:kSa (t,(f:Int),out) (0,(i:Int))=some (.cont ((bif br t f i then (i:Int) else 0),((i+1:Nat):Int))):=by
    unfold kSa;dsimp only;have e1:decide ((i:Int) < (t.length:Int))=true:=by simp;omega
    rw[test i h1i (by omega),e1,sc i (by omega)];simp only[beq_self_eq_true,cond_true,jAb];cases br t f i <;> rfl
   rw[z2a hb];unfold zSb;cases hq:br t f i with
   | false=>simpa using ih (i+1) (by omega) (by omega)
   | true=>
    simp only[cond_true,if_true];exact hout i (i+1) (by omega)
 unfold cutP;have e79:((79:Nat):Int)=79:=rfl;by_cases h0:Wda t f 78=0
 .rw[if_pos h0,h0];have:=hup (t.length - 79) 79 (by omega) (by omega);rw[e79]at this;exact this
 rw[if_neg h0];have:=hout (Wda t f 78) 79 h0;rw[e79]at this;exact this
def Vsa:Nat->Str->Nat->List Str
 | 0,t,_=>[t]
 | n+1,t,f=>if 78 < t.length then (if cutP t f=0 then [t] else t.take (cutP t f)::Vsa n (t.drop (cutP t f)) 1) else [t]
theorem zUb:∀(n m:Nat) (t:Str) (f:Nat),t.length<=n->t.length<=m->Vsa n t f=Vsa m t f:=by
 intro n;induction n with
 | zero=>
  intro m t f h1 h2;cases m with
  | zero=>rfl
  | succ m=>unfold Vsa;rw[if_neg (by omega)]
 | succ n ih=>
  intro m t f h1 h2;cases m with
  | zero=>unfold Vsa;rw[if_neg (by omega)]
  | succ m=>
   unfold Vsa;split
   .split
    .rfl
    rename_i hc;have:=Qca hc;rw[ih m _ 1 (by simp;omega) (by simp;omega)]
   rfl
def jEa(t:Str)(f:Nat):List Str:=Vsa t.length t f
theorem Wxa{t:Str}{f:Nat}(h:78 < t.length)(hc:cutP t f≠0):jEa t f=t.take (cutP t f)::jEa (t.drop (cutP t f)) 1:=by
 unfold jEa;obtain ⟨n,hn⟩:∃n,t.length=n+1:=⟨t.length - 1,by omega⟩;have hp:=Qca hc;rw[hn,Vsa,if_pos h,if_neg hc];rw[zUb n (t.drop (cutP t f)).length _ 1 (by simp;omega) (jBb _)]
theorem yqa{t:Str}{f:Nat}(h:¬78 < t.length∨cutP t f=0):jEa t f=[t]:=by
 unfold jEa;cases hn:t.length with
 | zero=>rfl
 | succ n=>
  rw[Vsa];rcases h with h | h
  .rw[if_neg h]
  split
  .rfl
  rfl
theorem Wya:∀(n:Nat) (t:Str) (f:Nat),t.length<=n->(jEa t f).flatten=t/\(jEa t f).length<=t.length+1:=by
 intro n;induction n with
 | zero=>intro t f h;rw[yqa (.inl (by omega))];simp
 | succ n ih=>
  intro t f h;by_cases h78:78 < t.length
  .by_cases hc:cutP t f=0
   .rw[yqa (.inr hc)];simp
   have hp:=Qca hc;rw[Wxa h78 hc];obtain ⟨h1,h2⟩:=ih (t.drop (cutP t f)) 1 (by simp;omega);rw[List.flatten_cons,h1];refine ⟨by simp,?_⟩;simp only[jCg,jCc]at h2 ⊢;omega
  rw[yqa (.inl h78)];simp
theorem J7a{body:Str × Int × List Str->Option (Step (Str × Int × List Str) (Str × List Str))}(enc:Nat->Int)(g:Nat)
 (h:∀(t:Str) (f:Nat) (out:List Str),t.length<=4194304->out.length<=4194305->f<=4194304->body (t,enc f,out)=some (if 78 < t.length then (if cutP t (max f 1)=0 then .out (t,out) else .cont (t.drop (cutP t (max f 1)),enc g,out++ [t.take (cutP t (max f 1))])) else .out (t,out))) (h0:max g 1=1):
 ∀(n:Nat) (t:Str) (f:Nat) (out:List Str),t.length<=n->t.length<=4194304->out.length+t.length<=4194305->f<=4194304->∃last init,iter body (t,enc f,out)=some (last,init)/\init++ [last]=out++jEa t (max f 1):=by
 intro n;induction n with
 | zero=>
  intro t f out h1 h2 h3 h4;have hb:=h t f out h2 (by omega) h4;rw[if_neg (by omega)]at hb;exact ⟨t,out,zDa hb,by rw[yqa (.inl (by omega))]⟩
 | succ n ih=>
  intro t f out h1 h2 h3 h4;have hb:=h t f out h2 (by omega) h4;by_cases h78:78 < t.length
  .rw[if_pos h78]at hb;by_cases hc:cutP t (max f 1)=0
   .rw[if_pos hc]at hb;exact ⟨t,out,zDa hb,by rw[yqa (.inr hc)]⟩
   rw[if_neg hc]at hb;have hp:=Qca hc;obtain ⟨last,init,q1,q2⟩:=ih (t.drop (cutP t (max f 1))) g (out++ [t.take (cutP t (max f 1))]) (by simp;omega) (by simp;omega) (by simp;omega) (by omega);refine ⟨last,init,(z2a hb).trans q1,?_⟩;rw[q2,h0,Wxa h78 hc];simp
  rw[if_neg h78]at hb;exact ⟨t,out,zDa hb,by rw[yqa (.inl h78)]⟩
def txt(n v:Str):Str:=n++ [58,32]++v
def flP(n v:Str):List Str:=jEa (txt n v) (n.length+2)
theorem yTb(t:Str)(f:Nat)(ht:t.length<=4194304)(hf:f<=4194304):∃last init,iter yLa (t,(f:Int),([]:List Str))=some (last,init)/\init++ [last]=jEa t (max f 1):=by
 have:=J7a (body:=yLa) (fun n=>(n:Int)) 0 (fun t f out h1 h2 h3=>by
  unfold yLa;dsimp only;by_cases h78:78 < t.length
  .have hd:decide ((78:Int) < (t.length:Int))=true:=by rw[decide_eq_true_eq];omega
   rw[hd,if_pos h78,zTb t f h1 h3];simp only[cond_true,jAb];by_cases hc:cutP t (max f 1)=0
   .rw[if_pos hc,hc];rfl
   have hp:=Qca hc;have e:(((cutP t (max f 1):Nat):Int)==0)=false:=by rw[beq_eq_false_iff_ne];omega
   rw[if_neg hc,e,Vma (by omega),Qwa (by omega)];simp only[cond_false,jAb];rw[qma (by simp;omega)];rfl
  have hd:decide ((78:Int) < (t.length:Int))=false:=by rw[decide_eq_false_iff_not];omega
  rw[hd,if_neg h78];rfl) (by decide) t.length t f [] (jBb _) ht (by simp;omega) hf
 simpa using this
theorem ref_loop(t:Str)(f:Nat)(ht:t.length<=4194304)(hf:f<=4194304)(h1f:1<=f):∃last init,iter v6a (t,(f:Int),([]:List Str))=some (last,init)/\init++ [last]=jEa t f:=by
 have:=J7a (body:=v6a) (fun n=>((max n 1:Nat):Int)) 1 (fun t f out h1 h2 h3=>by
  unfold v6a;dsimp only;by_cases h78:78 < t.length
  .have hd:decide ((78:Int) < (t.length:Int))=true:=by rw[decide_eq_true_eq];omega
   have hc0:=R_cut_eq t (max f 1) out h1 h78 (by omega) (by omega);obtain ⟨b10,hb10,hc1⟩:=jDp.1 hc0;rw[hd,if_pos h78,hb10];simp only[cond_true,jAb];rw[hc1];simp only[jAb];by_cases hc:cutP t (max f 1)=0
   .rw[if_pos hc,hc];rfl
   have hp:=Qca hc;have e:(((cutP t (max f 1):Nat):Int)==0)=false:=by rw[beq_eq_false_iff_ne];omega
   rw[if_neg hc,e,Vma (by omega),Qwa (by omega)];simp only[cond_false,jAb];rw[qma (by simp;omega)];rfl
  have hd:decide ((78:Int) < (t.length:Int))=false:=by rw[decide_eq_false_iff_not];omega
  rw[hd,if_neg h78];rfl) (by decide) t.length t f [] (jBb _) ht (by simp;omega) hf
 have e:max f 1=f:=by omega
 rw[e]at this;simpa using this
theorem yUb(n v:Str)(hn:n.length<=1048576)(hv:v.length<=1048576):cat n [58,32]=some (n++ [58,32])/\cat (n++ [58,32]) v=some (txt n v)/\w64 ((n.length:Int)+2)=((n.length+2:Nat):Int):=by
 refine ⟨cat_ok (by simp;omega),cat_ok (by simp;omega),?_⟩;rw[k6a (by omega) (by omega)];omega
theorem qVb(n v:Str):(txt n v).length=n.length+2+v.length:=by unfold txt;simp;omega
theorem KJa(n v:Str)(hn:n.length<=1048576)(hv:v.length<=1048576):wOa n v=some (flP n v):=by
 obtain ⟨h1,h2,h3⟩:=yUb n v hn hv;have hl:=qVb n v;obtain ⟨last,init,q1,q2⟩:=ref_loop (txt n v) (n.length+2) (by omega) (by omega) (by omega);unfold wOa flP;rw[h1];simp only[jAb];rw[h2];simp only[jAb];rw[h3,q1];simp only[jAb];have hj:=(Wya (txt n v).length (txt n v) (n.length+2) (jBb _)).2;rw[<-q2]at hj;simp at hj;rw[qma (by simp;omega),q2];rfl
def YKa(i:Nat)(l:Str):Option Int:=if 998 < l.length then some (i:Int) else none
def qWb(n v:Str):List Str × zpa:=
 if !fnP n then ([],⟨10, -1⟩) else if 4000 < v.length then ([],⟨1, -1⟩) else if !valP v then ([],⟨11, -1⟩) else match kda YKa 0 (flP n v) with | some i=>([],⟨1,i⟩) | none=>(flP n v,⟨0,0⟩)
theorem vBb(n v:Str):(flP n v).length<=n.length+v.length+3:=by
 have:=(Wya (txt n v).length (txt n v) (n.length+2) (jBb _)).2;have hl:=qVb n v;unfold flP;omega
theorem dec998(l:Str):decide ((998:Int) < (l.length:Int))=decide (998 < l.length):=by generalize l.length=n;rw[jAq];simp;omega
theorem Wza(n v:Str)(hn:n.length<=1048576)(hv:v.length<=1048576):Zqa n v=some (qWb n v):=by
 obtain ⟨h1,h2,h3⟩:=yUb n v hn hv;have hl:=qVb n v;obtain ⟨last,init,q1,q2⟩:=yTb (txt n v) (n.length+2) (by omega) (by omega);rw[show max (n.length+2) 1=n.length+2 by omega]at q2;unfold Zqa qWb;rw[k1b n hn,zRb v hv];simp only[jAb,zQa,kLa];cases fnP n with
 | false=>rfl
 | true=>
  simp only[jBg,cond_false,jAf,if_false];by_cases h4:4000 < v.length
  .have hd:decide ((4000:Int) < (v.length:Int))=true:=by rw[decide_eq_true_eq];omega
   rw[hd,if_pos h4];rfl
  have hd:decide ((4000:Int) < (v.length:Int))=false:=by rw[decide_eq_false_iff_not];omega
  rw[hd,if_neg h4];simp only[cond_false];cases valP v with
  | false=>rfl
  | true=>
   simp only[jBg,cond_false,jAf,if_false];rw[h1];simp only[jAb];rw[h2];simp only[jAb];rw[h3,q1];simp only[jAb];have hj:=vBb n v;have hfl:flP n v=init++ [last]:=q2.symm;have hj2:=hj;rw[hfl]at hj2;simp at hj2;rw[qma (by simp;omega),<-hfl];simp only[jAb];rw[zZa (flP n v) (fun i l=>(YKa i l).map fun k=>(([]:List Str),(⟨1,k⟩:zpa))) (.inl ()) .inr]
   .simp only[jAb];have hm:∀(l:List Str) (i:Nat),kda (fun i l=>(YKa i l).map fun k=>(([]:List Str),(⟨1,k⟩:zpa))) i l=(kda YKa i l).map fun k=>(([]:List Str),(⟨1,k⟩:zpa)):=by
     intro l;induction l with
     | nil=>intro i;rfl
     | cons x l ih=>intro i;unfold kda;rw[ih];cases YKa i x <;> rfl
    rw[hm];cases kda YKa 0 (flP n v) <;> rfl
   .unfold jXa;rw[zCa];rfl
   intro i l hli;have hi:=zEa hli;unfold jXa YKa;rw[z1a hli,zva hli];simp only[cond_true,jAb,dec998,zQa,sc i (by omega)];by_cases h9:998 < l.length
   .simp[h9]
   simp[h9]
def QNa(f:zja):Int:=(qWb f.Name f.Value).2.Code
def qXb(l:List Str):Bool:=l.any fun s=>decide (998 < s.length)
theorem J8a(l:List Str):∀n,(kda YKa n l).isSome=qXb l:=by
 induction l with
 | nil=>intro n;rfl
 | cons x l ih=>
  intro n;unfold kda qXb YKa;by_cases h:998 < x.length
  .simp[h]
  simp only[h,if_false,jDt,decide_false,jCy];exact ih (n+1)
def codeQ(n v:Str):Int:=if !fnP n then 10 else if 4000 < v.length then 1 else if !valP v then 11 else if qXb (flP n v) then 1 else 0
theorem vCb(f:zja):QNa f=codeQ f.Name f.Value:=by
 unfold QNa qWb codeQ;rw[<-J8a (flP f.Name f.Value) 0];split
 .rfl
 split
 .rfl
 split
 .rfl
 cases kda YKa 0 (flP f.Name f.Value) <;> rfl
theorem R_In_60(s:Str):R_In (s.length:Int) 1 60=some (s !=([]:Str) && decide (s.length<=60)):=by
 rw[vea];cases s with
 | nil=>rfl
 | cons c s=>
  have h:decide ((1:Int)<=((c::s).length:Int))=true:=by rw[decide_eq_true_eq];simp;omega
  rw[h,dec60];rfl
theorem elim_int(c:Int)(o:Option Unit)(f:Unit->Option Int):Sum.elim f (fun b=>some b) (o.elim (Sum.inl ()) (fun _=>Sum.inr c):Unit ⊕ Int)=bif o.isSome then some c else f ():=by cases o <;> rfl
theorem Jqa(f:zja)(hn:f.Name.length<=1048576)(hv:f.Value.length<=1048576):jxa f=some (QNa f):=by
 rw[vCb];unfold jxa;have hl1:iter (wta f) 0=some ((kda (fun _ c=>if !fnC c then some () else none) 0 f.Name).elim (.inl ()) fun _=>.inr 10):=by
  refine zZa f.Name _ (Sum.inl ()) (fun _=>Sum.inr 10) ?_ ?_
  .unfold wta;rw[zCa];rfl
  intro i c hc;have hi:=zEa hc;unfold wta;rw[z1a hc,zva hc];simp only[cond_true,jAb,vea,jNa c 58 (by decide),Z8a 33 c (by decide),Z9a 126 c (by decide),sc i (by omega)];unfold fnC bne;cases decide ((33:UInt8)<=c) <;> cases decide (c<=126) <;> cases c==58 <;> rfl
 have hl2:iter (wua f) 0=some ((kda (fun _ c=>if endC c then some () else none) 0 f.Value).elim (.inl ()) fun _=>.inr 11):=by
  refine zZa f.Value _ (Sum.inl ()) (fun _=>Sum.inr 11) ?_ ?_
  .unfold wua;rw[zCa];rfl
  intro i c hc;have hi:=zEa hc;unfold wua;rw[z1a hc,zva hc];simp only[cond_true,jAb,jNa c 0 (by decide),jNa c 10 (by decide),jNa c 13 (by decide),sc i (by omega)];unfold endC;cases c==0 <;> cases c==10 <;> cases c==13 <;> rfl
 have hl3:∀l:List Str,l.length<=4194304->iter (wva l) 0=some ((kda (fun _ c=>if decide (998 < c.length) then some () else none) 0 l).elim (.inl ()) fun _=>.inr 1):=by
  intro l hl;refine zZa l _ (Sum.inl ()) (fun _=>Sum.inr 1) ?_ ?_
  .unfold wva;rw[zCa];rfl
  intro i c hc;have hi:=zEa hc;unfold wva;rw[z1a hc,zva hc];simp only[cond_true,jAb,dec998,sc i (by omega)];cases decide (998 < c.length) <;> rfl
 have hfl:=vBb f.Name f.Value;rw[hl1];simp only[jAb,elim_int,Z0a,zOb,R_In_60,hl2,KJa _ _ hn hv,hl3 _ (show (flP f.Name f.Value).length<=4194304 by omega)];have h4:decide ((4000:Int) < (f.Value.length:Int))=decide (4000 < f.Value.length):=by generalize f.Value.length=n;rw[jAq];simp;omega
 have he:(bif decide ((0:Int) < (f.Value.length:Int)) then (idx f.Value 0).bind fun v38=>(w2a v38).bind fun v40=>(bif v40 then some true else (idx f.Value ((w64 ((f.Value.length:Int) - 1)))).bind fun v43=>(w2a v43).bind fun v45=>some v45) else some false)=some (yQb f.Value):=by
  by_cases hn0:f.Value=[]
  .rw[hn0];rfl
  obtain ⟨a,b,h1,h2,h3,h4⟩:=vAb f.Value hn0 hv;have hp:=List.length_pos_iff.2 hn0;have hd:decide ((0:Int) < (f.Value.length:Int))=true:=by rw[decide_eq_true_eq];omega
  unfold yQb;rw[h1,h2,h3,h4,hd];simp only[jAb,J6a,cond_true];cases y8a a <;> rfl
 rw[he,h4];simp only[jAb];unfold codeQ fnP valP qXb;cases f.Name.all fnC <;> cases (f.Name !=([]:Str)) <;> cases decide (f.Name.length<=60) <;> (try rfl)
 simp only[Bool.and_true,jBg,jAf,if_false,cond_false];by_cases h4000:4000 < f.Value.length
 .simp[h4000]
 simp only[h4000,decide_false,cond_false,if_false];cases f.Value.any endC <;> cases yQb f.Value <;> (try rfl)
 simp only[jDb,Bool.and_true,jBg,jAf,if_false,cond_false];cases (flP f.Name f.Value).any fun s=>decide (998 < s.length) <;> rfl
def smallF(l:List zja):Prop:=l.length<=1048576/\∀f∈l,f.Name.length<=1048576/\f.Value.length<=1048576
def KKa(i:Nat)(f:zja):Option zpa:=if QNa f !=0 then some ⟨QNa f,i⟩ else none
def Vta(l:List zja):zpa:=if 60 < l.length then ⟨2, -1⟩ else (kda KKa 0 l).getD ⟨0,0⟩
theorem dec60f(l:List zja):decide ((60:Int) < (l.length:Int))=decide (60 < l.length):=by generalize l.length=n;rw[jAq];simp;omega
theorem Vua(l:List zja)(h:smallF l):v5a l=some (Vta l):=by
 obtain ⟨h1,h2⟩:=h;unfold v5a Vta;rw[zZa l KKa (.inl ()) .inr]
 .simp only[jAb,zQa,kLa,Wca,dec60f];by_cases h6:60 < l.length <;> simp[h6]
 .unfold vRa;rw[zCa];rfl
 intro i f hf;have hi:=zEa hf;obtain ⟨hn,hv⟩:=h2 f (jAd hf);unfold vRa KKa;rw[z1a hf,zva hf];simp only[cond_true,jAb,Wza _ _ hn hv,kba,zQa,sc i (by omega)];show (bif QNa f !=0 then _ else _)=_;cases QNa f !=0 <;> rfl
theorem Wea(l:List zja)(h:(Vta l).Code=0):¬60 < l.length/\kda KKa 0 l=none/\∀f∈l,QNa f=0:=by
 unfold Vta at h;by_cases h6:60 < l.length
 .rw[if_pos h6]at h;simp at h
 rw[if_neg h6]at h;cases hq:kda KKa 0 l with
 | some y=>
  rw[hq]at h;obtain ⟨i,f,h1,h2⟩:=ZZa hq;unfold KKa at h2;exfalso;by_cases hc:QNa f=0
  .simp[hc]at h2
  have:(QNa f !=0)=true:=by simpa using hc
  rw[this]at h2;simp at h2;subst h2;exact hc h
 | none=>
  refine ⟨h6,rfl,fun f hf=>?_⟩;obtain ⟨i,hi⟩:=List.getElem?_of_mem hf;have:=vta.1 hq i f hi;unfold KKa at this;simpa using this
theorem vDb{f:zja}(h:QNa f=0):f.Name.length<=60/\f.Value.length<=4000/\qWb f.Name f.Value=(flP f.Name f.Value,⟨0,0⟩)/\∀l∈flP f.Name f.Value,l.length<=998:=by
 have h0:=h;rw[vCb]at h;unfold codeQ at h;have h1:fnP f.Name=true:=by cases hx:fnP f.Name with
  | true=>rfl
  | false=>rw[hx]at h;simp at h
 rw[h1]at h;simp only[jBg,jAf,if_false]at h;have h2:¬4000 < f.Value.length:=by intro hx;rw[if_pos hx]at h;simp at h
 rw[if_neg h2]at h;have h3:valP f.Value=true:=by cases hx:valP f.Value with
  | true=>rfl
  | false=>rw[hx]at h;simp at h
 rw[h3]at h;simp only[jBg,jAf,if_false]at h;have h4:qXb (flP f.Name f.Value)=false:=by cases hx:qXb (flP f.Name f.Value) with
  | false=>rfl
  | true=>rw[hx]at h;simp at h
 refine ⟨?_,by omega,?_,?_⟩
 .unfold fnP at h1;simp only[jAs,decide_eq_true_eq]at h1;exact h1.1.2
 .unfold qWb;rw[h1,h3];simp only[jBg,jAf,if_false,if_neg h2];have:=J8a (flP f.Name f.Value) 0;rw[h4]at this;cases hx:kda YKa 0 (flP f.Name f.Value) with
  | none=>rfl
  | some y=>rw[hx]at this;cases this
 intro l hl;unfold qXb at h4;rw[jCi]at h4;have:=h4 l hl;simp at this;omega
def addL(a:List UInt8)(l:Str):List UInt8:=a++l++ [13,10]
def addF(a:List UInt8)(f:zja):List UInt8:=(flP f.Name f.Value).foldl addL a
def jFa(m:zya):List UInt8:=m.Fields.foldl addF []++ [13,10]++m.Body
theorem vEb(l:List Str)(acc:List UInt8)(hl:l.length<=5000)(h9:∀s∈l,s.length<=998)(ha:acc.length<=1000000000){body:Int × List UInt8->Option (Step (Int × List UInt8) (List UInt8))}
 (h0:∀s,body ((l.length:Int),s)=some (.out s)) (h1:∀(i:Nat) x s,l[i]? =some x->s.length<=1006000000->body ((i:Int),s)=some (.cont (((i+1:Nat):Int),addL s x))):iter body (0,acc)=some (l.foldl addL acc)/\(l.foldl addL acc).length<=acc.length+1000 * l.length:=
 KHa l (fun i s=>(i,s)) addL id (fun i s=>s.length<=acc.length+1000 * i) (body:=body) (fun s _=>h0 s) (fun i x s hx hi=>by
  have hlt:=zEa hx;have h9x:=h9 x (jAd hx);refine ⟨h1 i x s hx (by omega),?_⟩;unfold addL;simp;omega) acc (by simp)
theorem k4b(l:List zja)(hl:l.length<=60)(hc:∀f∈l,QNa f=0){body:Int × List UInt8->Option (Step (Int × List UInt8) (List UInt8))}
 (h0:∀s,body ((l.length:Int),s)=some (.out s)) (h1:∀(i:Nat) f s,l[i]? =some f->s.length<=1000000000->body ((i:Int),s)=some (.cont (((i+1:Nat):Int),addF s f))/\(addF s f).length<=s.length+5000000):iter body (0,([]:List UInt8))=some (l.foldl addF [])/\(l.foldl addF []).length<=5000000 * l.length:=
 KHa l (fun i s=>(i,s)) addF id (fun i s=>s.length<=5000000 * i) (body:=body) (fun s _=>h0 s) (fun i f s hf hi=>by
  have hlt:=zEa hf;obtain ⟨q1,q2⟩:=h1 i f s hf (by omega);exact ⟨q1,by omega⟩) [] (by simp)
theorem WJa(m:zya)(hb:m.Body.length<=1048576)(h60:m.Fields.length<=60)(hc:∀f∈m.Fields,QNa f=0):w0a m=some (jFa m):=by
 unfold w0a jFa;obtain ⟨h1,h2⟩:=k4b m.Fields h60 hc (body:=vAa m) (fun s=>by unfold vAa;rw[zCa];rfl) (fun i f s hf hs=>by
  have hi:=zEa hf;obtain ⟨c1,c2,c3,c4⟩:=vDb (hc f (jAd hf));have hfl:=vBb f.Name f.Value;obtain ⟨q1,q2⟩:=vEb (flP f.Name f.Value) s (by omega) c4 hs (body:=vza (qWb f.Name f.Value)) (fun s=>by unfold vza;rw[c3,zCa];rfl) (fun k x s hx hs=>by
   have hk:=zEa hx;have:=c4 x (jAd hx);unfold vza;rw[c3,z1a hx,zva hx];simp only[cond_true,jAb,sc k (by omega)];rw[qma (by omega)];simp only[jAb];rw[qma (by simp;omega)];rfl)
  unfold addF;refine ⟨?_,by omega⟩;unfold vAa;rw[z1a hf,zva hf];simp only[cond_true,jAb,Wza f.Name f.Value (by omega) (by omega),q1,sc i (by omega)])
 rw[h1];simp only[jAb];rw[qma (by simp;omega)];simp only[jAb];rw[qma (by simp;omega)];rfl
theorem Wfa(m:zya)(hb:m.Body.length<=1048576)(h60:m.Fields.length<=60)(hc:∀f∈m.Fields,QNa f=0):wwa m=some (jFa m):=by
 unfold wwa jFa;obtain ⟨h1,h2⟩:=k4b m.Fields h60 hc (body:=q8a m) (fun s=>by unfold q8a;rw[zCa];rfl) (fun i f s hf hs=>by
  have hi:=zEa hf;obtain ⟨c1,c2,c3,c4⟩:=vDb (hc f (jAd hf));have hfl:=vBb f.Name f.Value;obtain ⟨q1,q2⟩:=vEb (flP f.Name f.Value) s (by omega) c4 hs (body:=q7a (flP f.Name f.Value)) (fun s=>by unfold q7a;rw[zCa];rfl) (fun k x s hx hs=>by
   have hk:=zEa hx;have:=c4 x (jAd hx);unfold q7a;rw[z1a hx,zva hx];simp only[cond_true,jAb,sc k (by omega)];rw[qma (by omega)];simp only[jAb];rw[qma (by simp;omega)];rfl)
  unfold addF;refine ⟨?_,by omega⟩;unfold q8a;rw[z1a hf,zva hf];simp only[cond_true,jAb,KJa f.Name f.Value (by omega) (by omega),q1,sc i (by omega)])
 rw[h1];simp only[jAb];rw[qma (by simp;omega)];simp only[jAb];rw[qma (by simp;omega)];rfl
def Jra:Nat->List UInt8->Option Bool
 | _,[]=>none
 | c,[x]=>if x==13 || x==10 then some true else if 998 < c+1 then some false else none
 | c,x::y::r=>if x==13 && y==10 then Jra 0 r else if x==13 || x==10 then some true else if 998 < c+1 then some false else Jra (c+1) (y::r)
def Vva{O:Type}(e:Bool->O)(c i:Nat)(x:UInt8)(r:List UInt8):Step (Int × Int) (Unit ⊕ O):=
 if x==13 && r.head? ==some 10 then .cont (0,((i+2:Nat):Int)) else if x==13 || x==10 then .out (.inr (e true)) else if 998 < c+1 then .out (.inr (e false)) else .cont (((c+1:Nat):Int),((i+1:Nat):Int))
theorem k5b{O:Type}(e:Bool->O)(l:List UInt8){body:Int × Int->Option (Step (Int × Int) (Unit ⊕ O))}
 (h0:∀c,body (c,(l.length:Int))=some (.out (.inl ())))
 (hs:∀(c:Nat) (p:List UInt8) x r,l=p++x::r->c<=998->body ((c:Int),(p.length:Int))=some (Vva e c p.length x r)):
 ∀(n:Nat) (r p:List UInt8) (c:Nat),r.length<=n->l=p++r->c<=998->iter body ((c:Int),(p.length:Int))=some ((Jra c r).elim (.inl ()) fun b=>.inr (e b)):=by
 intro n;induction n with
 | zero=>
  intro r p c hr hl hc;obtain rfl:r=[]:=List.length_eq_zero_iff.1 (by omega);have:p=l:=by simp[hl]
  subst this;exact zDa (h0 _)
 | succ n ih=>
  intro r p c hr hl hc
  match r,hr,hl with
  | [],_,hl=>
   have:p=l:=by simp[hl]
   subst this;exact zDa (h0 _)
  | [x],hr,hl=>
   have hb:=hs c p x [] hl hc;unfold Vva at hb;have e1:(x==13 && ([]:List UInt8).head? ==some 10)=false:=by simp
   rw[e1]at hb;simp only[jAf,if_false]at hb;unfold Jra;cases hx:(x==13 || x==10) with
   | true=>rw[hx]at hb;exact zDa hb
   | false=>
    rw[hx]at hb;simp only[jAf,if_false]at hb ⊢;by_cases h9:998 < c+1
    .rw[if_pos h9]at hb ⊢;exact zDa hb
    rw[if_neg h9]at hb ⊢;rw[z2a hb];have:=ih [] (p++ [x]) (c+1) (by simp) (by simp[hl]) (by omega);rw[jAl]at this;exact this
  | x::y::r,hr,hl=>
   have hb:=hs c p x (y::r) hl hc;unfold Vva at hb;have e1:((y::r).head? ==some (10:UInt8))=(y==10):=by simp
   rw[e1]at hb;unfold Jra;cases hxy:(x==13 && y==10) with
   | true=>
    rw[hxy]at hb;simp only[if_true]at hb ⊢;rw[z2a hb];have:=ih r (p++ [x,y]) 0 (by simp at hr;omega) (by simp[hl]) (by omega);rw[jAl]at this;exact this
   | false=>
    rw[hxy]at hb;simp only[jAf,if_false]at hb ⊢;cases hx:(x==13 || x==10) with
    | true=>rw[hx]at hb;exact zDa hb
    | false=>
     rw[hx]at hb;simp only[jAf,if_false]at hb ⊢;by_cases h9:998 < c+1
     .rw[if_pos h9]at hb ⊢;exact zDa hb
     rw[if_neg h9]at hb ⊢;rw[z2a hb];have:=ih (y::r) (p++ [x]) (c+1) (by simp at hr ⊢;omega) (by simp[hl]) (by omega);rw[jAl]at this;exact this
theorem yVb{l p r:List UInt8}{x:UInt8}(h:l=p++x::r)(hl:l.length<=1048576):(bif decide (((p.length+1:Nat):Int) < (l.length:Int)) then (idx l ((p.length+1:Nat):Int)).bind fun v13=>some (((v13.toNat:Int)==10)) else some false)=some (r.head? ==some 10):=by
 subst h;simp at hl;cases r with
 | nil=>
  have:decide (((p.length+1:Nat):Int) < ((p++ [x]).length:Int))=false:=by simp
  rw[this];rfl
 | cons y r=>
  have:decide (((p.length+1:Nat):Int) < ((p++x::y::r).length:Int))=true:=by simp;omega
  rw[this,V9a];have:(p++x::y::r)[p.length+1]? =some y:=by simp[jAj]
  rw[this];simp only[cond_true,jAb,jNa y 10 (by decide)];simp
theorem zVb(l:List UInt8)(hl:l.length<=1048576):Zra l=some ((Jra 0 l).elim 0 fun b=>bif b then 11 else 1):=by
 unfold Zra;have:=k5b (fun b:Bool=>bif b then (11:Int) else 1) l (body:=wma l) (fun c=>by unfold wma;rw[zCa];rfl) (fun c p x r h hc=>by
  have hx:l[p.length]? =some x:=by simp[h]
  have hi:=zEa hx;unfold wma w1a Vva;dsimp only;rw[z1a hx,zva hx];simp only[cond_true,jAb,jNa x 13 (by decide),jNa x 10 (by decide),sc p.length (by omega),sc (p.length+1) (by omega),sc c (by omega)];rw[yVb h hl];have h9:decide ((998:Int) < ((c+1:Nat):Int))=decide (998 < c+1):=by rw[jAq];simp;omega
  rw[h9];by_cases h98:998 < c+1 <;> simp only[h98,decide_true,decide_false,if_true,if_false] <;> cases x==13 <;> cases x==10 <;> cases r.head? ==some 10 <;> rfl) l.length l [] 0 (jBb _) rfl (by omega)
 have h2:iter (wma l) (0,0)=_:=this;rw[h2];cases Jra 0 l with
 | none=>rfl
 | some b=>cases b <;> rfl
def bodyF(l:List UInt8):zpa:=(Jra 0 l).elim ⟨0,0⟩ fun b=>bif b then ⟨11, -5⟩ else ⟨1, -6⟩
theorem YLa(l:List UInt8)(hl:l.length<=1048576):yMa l=some (bodyF l):=by
 unfold yMa bodyF;rw[zVb l hl];cases Jra 0 l with
 | none=>rfl
 | some b=>cases b <;> rfl
def msgF(m:zya):zpa:=if (Vta m.Fields).Code !=0 then Vta m.Fields else if 12000 < (jFa m).length then ⟨1, -4⟩ else bodyF m.Body
def J9a(m:zya):Prop:=smallF m.Fields/\m.Body.length<=1048576
theorem QOa(m:zya)(h:J9a m):vBa m=some (msgF m):=by
 obtain ⟨h1,h2⟩:=h;unfold vBa msgF;rw[Vua _ h1];simp only[jAb,kba,zQa,YLa _ h2];cases hc:(Vta m.Fields).Code !=0 with
 | true=>rfl
 | false=>
  obtain ⟨q1,q2,q3⟩:=Wea m.Fields (by simpa using hc);rw[WJa m h2 (by omega) q3];simp only[jAb,cond_false,jAf,if_false];have:decide ((12000:Int) < ((jFa m).length:Int))=decide (12000 < (jFa m).length):=by generalize (jFa m).length=n;rw[jAq];simp;omega
  rw[this];by_cases hb:12000 < (jFa m).length <;> simp[hb]
theorem Wga(m:zya)(h:J9a m):vGa m=some (msgF m):=by
 obtain ⟨⟨h1,h3⟩,h2⟩:=h;unfold vGa msgF;rw[zZa m.Fields KKa (.inl ()) .inr]
 .have hbl:iter (qpa m) (0,0)=_:=k5b (fun b:Bool=>bif b then (⟨11, -5⟩:zpa) else ⟨1, -6⟩) m.Body (body:=qpa m) (fun c=>by unfold qpa;rw[zCa];rfl) (fun c p x r h hc=>by
   have hx:m.Body[p.length]? =some x:=by simp[h]
   have hi:=zEa hx;unfold qpa q9a Vva;dsimp only;rw[z1a hx,zva hx];simp only[cond_true,jAb,jNa x 13 (by decide),jNa x 10 (by decide),sc p.length (by omega),sc (p.length+1) (by omega),sc c (by omega),qTa];rw[yVb h h2];have h9:decide ((998:Int) < ((c+1:Nat):Int))=decide (998 < c+1):=by rw[jAq];simp;omega
   rw[h9];by_cases h98:998 < c+1 <;> simp only[h98,decide_true,decide_false,if_true,if_false] <;> cases x==13 <;> cases x==10 <;> cases r.head? ==some 10 <;> rfl) m.Body.length m.Body [] 0 (jBb _) rfl (by omega)
  rw[hbl,dec60f];simp only[jAb,qTa];by_cases h6:60 < m.Fields.length
  .have:Vta m.Fields=⟨2, -1⟩:=by unfold Vta;rw[if_pos h6]
   rw[this];simp[h6]
  simp only[h6,decide_false,cond_false];have hh:Vta m.Fields=(kda KKa 0 m.Fields).getD ⟨0,0⟩:=by unfold Vta;rw[if_neg h6]
  cases hq:kda KKa 0 m.Fields with
  | some y=>
   rw[hq]at hh;have hc:((Vta m.Fields).Code !=0)=true:=by
    cases hc:(Vta m.Fields).Code !=0 with
    | true=>rfl
    | false=>
     obtain ⟨_,q2,_⟩:=Wea m.Fields (by simpa using hc);rw[hq]at q2;cases q2
   rw[hc,hh];rfl
  | none=>
   rw[hq]at hh;have hz:Vta m.Fields=⟨0,0⟩:=hh;obtain ⟨q1,q2,q3⟩:=Wea m.Fields (by rw[hz]);rw[Wfa m h2 (by omega) q3,hz];simp only[jAb,Option.elim_none,Sum.elim_inl];have hbb:m.Body.length<=(jFa m).length:=by unfold jFa;simp;omega
   have e2:(bif decide ((12000:Int) < (m.Body.length:Int)) then some true else some (decide ((12000:Int) < ((jFa m).length:Int))))=some (decide (12000 < (jFa m).length)):=by
    generalize (jFa m).length=n at *;by_cases hx:12000 < m.Body.length
    .have e3:decide ((12000:Int) < (m.Body.length:Int))=true:=by rw[decide_eq_true_eq];omega
     have e4:decide (12000 < n)=true:=by rw[decide_eq_true_eq];omega
     rw[e3,e4];rfl
    have e3:decide ((12000:Int) < (m.Body.length:Int))=false:=by rw[decide_eq_false_iff_not];omega
    rw[e3];simp only[cond_false,Option.some.injEq];rw[jAq];simp;omega
   rw[e2];simp only[jAb];unfold bodyF;by_cases hb:12000 < (jFa m).length
   .simp[hb]
   simp only[hb,decide_false,cond_false,if_false];cases Jra 0 m.Body <;> rfl
 .unfold wna;rw[zCa];rfl
 intro i f hf;have hi:=zEa hf;obtain ⟨hn,hv⟩:=h3 f (jAd hf);unfold wna KKa;rw[z1a hf,zva hf];simp only[cond_true,jAb,Jqa _ hn hv,qTa,sc i (by omega)];cases QNa f !=0 <;> rfl
instance:DecidableEq zca:=fun a b=>decidable_of_iff (a.Address=b.Address/\a.Notify=b.Notify) (by cases a;cases b;simp)
instance:DecidableEq zpa:=fun a b=>decidable_of_iff (a.Code=b.Code/\a.Index=b.Index) (by cases a;cases b;simp)
instance:DecidableEq zGa:=fun a b=>decidable_of_iff (a.From=b.From/\a.To=b.To/\a.Id=b.Id) (by cases a;cases b;simp)
theorem rec_eq(a b:zca):kWa [(a.Address==b.Address),(a.Notify==b.Notify)]=(a==b):=by
 cases a;cases b;rw[jAq];simp[kWa]
def zWb(s:Str):Str:=if atP s < s.length then s.drop (atP s+1) else []
theorem wub(s:Str):(J0a s).2.1=zWb s:=by
 unfold J0a zWb;by_cases h:atP s < s.length
 .rw[if_pos h,if_pos h]
 rw[if_neg h,if_neg h]
theorem zXb(s:Str)(hs:s.length<=1048576):Zna s=some (zWb s):=by
 unfold Zna zWb;rw[kYb s (by omega)];have hle:atP s<=s.length:=List.findIdx_le_length;simp only[jAb];by_cases h:atP s < s.length
 .have e:(((atP s:Nat):Int)==(s.length:Int))=false:=by rw[beq_eq_false_iff_ne];omega
  rw[e,if_pos h,sc _ (by omega)];simp only[cond_false];rw[Qwa (by omega)];rfl
 have e:(((atP s:Nat):Int)==(s.length:Int))=true:=by rw[beq_iff_eq];omega
 rw[e,if_neg h];rfl
theorem yWb{α:Type}(l:List α)(i:Nat)(z:α)(h:i<=l.length):(clr0 l i z).take i=l.take i:=by
 unfold clr0;simp[List.take_append,h]
def YMa(s:Str)(r:zca):Bool:=r.Address==s
def qYb(out:List zca)(s:Str):Bool:=out.any (YMa s)
def putR(out:List zca)(r:zca):List zca:=if qYb out r.Address then out.map (fun x=>if YMa r.Address x then ⟨x.Address,iOr x.Notify r.Notify⟩ else x) else out++ [r]
def posA(out:List zca)(s:Str):Option Nat:=out.findIdx? (YMa s)
theorem posA_has(out:List zca)(s:Str):(posA out s).isSome=qYb out s:=by unfold posA qYb;exact List.findIdx?_isSome
theorem posA_app(out:List zca)(r:zca)(s:Str)(h:qYb out r.Address=false):posA (out++ [r]) s=if r.Address==s then some out.length else posA out s:=by
 unfold posA;rw[List.findIdx?_append];by_cases hs:(r.Address==s)=true
 .rw[if_pos hs];have e:r.Address=s:=beq_iff_eq.1 hs;subst e;have:out.findIdx? (YMa r.Address)=none:=by
   have:=posA_has out r.Address;rw[h]at this;unfold posA at this;simpa using this
  rw[this];simp[YMa]
 rw[if_neg hs];have:YMa s r=false:=by unfold YMa;simpa using hs
 simp[List.findIdx?_cons,this]
theorem posA_map(out:List zca)(f:zca->zca)(hf:∀x,(f x).Address=x.Address)(s:Str):posA (out.map f) s=posA out s:=by
 unfold posA;rw[List.findIdx?_map]
 congr 1
 funext x;simp[Function.comp,YMa,hf]
structure MInv (i:Nat) (out:List zca) (m:List (Str × Int)):Prop where
 len:out.length<=i
 nd:(out.map (·.Address)).Nodup
 mp:∀s,mget m s=(posA out s).map fun k=>((k:Nat):Int)
theorem MInv.put{i:Nat}{out:List zca}{m:List (Str × Int)}(h:MInv i out m)(r:zca):MInv (i+1) (putR out r) (if qYb out r.Address then m else mput m r.Address (out.length:Int)):=by
 unfold putR;cases hh:qYb out r.Address with
 | true=>
  simp only[if_true];have hf:∀x:zca,(if YMa r.Address x then (⟨x.Address,iOr x.Notify r.Notify⟩:zca) else x).Address=x.Address:=by intro x;split <;> rfl
  refine ⟨by simp;have:=h.len;omega,?_,fun s=>?_⟩
  .rw[List.map_map,show ((·.Address) ∘ fun x:zca=>if YMa r.Address x then (⟨x.Address,iOr x.Notify r.Notify⟩:zca) else x)=(·.Address) from funext hf];exact h.nd
  rw[posA_map _ _ hf];exact h.mp s
 | false=>
  simp only[jAf,if_false];refine ⟨by simp;exact h.len,?_,fun s=>?_⟩
  .rw[List.map_append,List.nodup_append];refine ⟨h.nd,by simp,?_⟩;intro a ha b hb;simp at hb;subst hb;rintro rfl;obtain ⟨x,hx,hxe⟩:=jCb.1 ha;unfold qYb at hh;rw[jCi]at hh;exact hh x hx (by simp[YMa,hxe])
  rw[wlb,posA_app _ _ _ hh,h.mp s];by_cases hs:(r.Address==s)=true
  .rw[if_pos hs,if_pos hs];rfl
  rw[if_neg hs,if_neg hs]
theorem recF_ok(l:List zca)(h:(recF l).Code=0):recF l=⟨0,0⟩:=by
 unfold recF at h ⊢;cases hf:kda (recQ l) 0 l with
 | none=>rfl
 | some f=>
  exfalso;obtain ⟨i,x,hx,hq⟩:=ZZa hf;rw[hf]at h;unfold recQ at hq;split at hq
  .cases hq;simp at h
  split at hq
  .cases hq;simp at h
  split at hq
  .cases hq;simp at h
  cases hq
theorem envF_ok(e:zGa)(h:(envF e).Code=0):envF e=⟨0,0⟩:=by
 unfold envF at h ⊢;split
 .rename_i h1;rw[if_pos h1]at h;simp at h
 rename_i h1;rw[if_neg h1]at h;split
 .rename_i h2;rw[if_pos h2]at h;simp at h
 rename_i h2;rw[if_neg h2]at h;split
 .rename_i h3;rw[if_pos h3]at h;simp at h
 rename_i h3;rw[if_neg h3]at h;exact recF_ok _ h
theorem yXb{m:zya}(h:zya.bk m<=1048576):J9a m:=by
 unfold zya.bk at h;have h1:=YGa (bk:=zja.bk) (fun x=>by unfold zja.bk;omega) m.Fields;have h2:=YGa (bk:=fun _:UInt8=>1) (fun x=>by simp) m.Body;refine ⟨⟨by omega,fun f hf=>?_⟩,by omega⟩;have h5:=qMb (bk:=zja.bk) hf;have h6:zja.bk f=f.Name.length+1+(f.Value.length+1)+1:=rfl;omega
def yda(m:kia):zpa:=if (envF m.Envelope).Code !=0 then envF m.Envelope else if (msgF m.Message).Code !=0 then ⟨(msgF m.Message).Code, -30⟩ else ⟨0,0⟩
theorem yra(m:kia)(h1:J3a m.Envelope)(h2:J9a m.Message):qQa m=some (yda m):=by
 unfold qQa yda;rw[Qha _ h1,QOa _ h2];simp only[jAb,kba,zQa,kLa];cases (envF m.Envelope).Code !=0 <;> cases (msgF m.Message).Code !=0 <;> rfl
theorem Zda(m:kia)(h1:J3a m.Envelope)(h2:J9a m.Message):vka m=some (yda m):=by
 unfold vka yda;rw[Vra _ h1,Wga _ h2];simp only[jAb,qTa];by_cases hc:(envF m.Envelope).Code=0
 .have hz:=envF_ok _ hc;rw[hz];cases h:(msgF m.Message).Code !=0 <;> simp[h]
 have e1:((envF m.Envelope).Code !=0)=true:=by simpa using hc
 have e2:((envF m.Envelope).Code==0)=false:=by simpa using hc
 rw[e1,e2];simp only[cond_false,jAb,if_true]
theorem yea(t:Int):q3a t=some (decide (-68719476736<=t) && decide (t<=68719476736)):=by
 unfold q3a;by_cases h:(-68719476736:Int)<=t <;> simp[h]
def add1(o:List Str)(x:Str):List Str:=if o.contains x then o else o++ [x]
def zab(o xs:List Str):List Str:=xs.foldl add1 o
theorem add1_mem(o:List Str)(x y:Str):y∈add1 o x↔y∈o∨y=x:=by
 unfold add1;split
 .rename_i h;simp at h;constructor
  .exact .inl
  rintro (h1 | rfl)
  .exact h1
  exact h
 simp
theorem qZb(o:List Str)(x:Str):o <+:add1 o x:=by
 unfold add1;split
 .exact List.prefix_refl _
 exact List.prefix_append _ _
theorem wvb{o:List Str}(h:o.Nodup)(x:Str):(add1 o x).Nodup:=by
 unfold add1;split
 .exact h
 rename_i hx;simp at hx;rw[List.nodup_append];exact ⟨h,by simp,fun a ha b hb hab=>by simp at hb;subst hb;subst hab;exact hx ha⟩
theorem wwb(xs:List Str):∀(o:List Str) (y:Str),y∈zab o xs↔y∈o∨y∈xs:=by
 induction xs with
 | nil=>intro o y;simp[zab]
 | cons x xs ih=>intro o y;show y∈zab (add1 o x) xs↔_;rw[ih,add1_mem];simp[or_assoc]
theorem zYb(xs:List Str):∀o:List Str,o <+:zab o xs:=by
 induction xs with
 | nil=>intro o;exact List.prefix_refl _
 | cons x xs ih=>intro o;exact (qZb o x).trans (ih _)
theorem k6b(xs:List Str):∀{o:List Str},o.Nodup->(zab o xs).Nodup:=by
 induction xs with
 | nil=>intro o h;exact h
 | cons x xs ih=>intro o h;exact ih (wvb h x)
theorem nodup_le{l m:List Str}(hl:l.Nodup)(h:∀x∈l,x∈m):l.length<=m.length:=by
 induction l generalizing m with
 | nil=>simp
 | cons x l ih=>
  have hx:x∈m:=h x (by simp);obtain ⟨hxl,hl'⟩:=jBo.1 hl;have:=ih (m:=m.erase x) hl' (fun y hy=>by
   have hne:y≠x:=by rintro rfl;exact hxl hy
   exact (List.mem_erase_of_ne hne).2 (h y (by simp[hy])))
  rw[List.length_erase_of_mem hx]at this;have:0 < m.length:=List.length_pos_of_mem hx;simp;omega
def tgtO(l:List jTa)(s:Str):Option (List Str):=(l.find? (fun a=>a.Address==s)).map (·.To)
def tgt(l:List jTa)(s:Str):List Str:=(tgtO l s).getD []
def univ(l:List jTa)(from_:List Str):List Str:=from_++l.flatMap (·.To)
theorem tgt_sub(l:List jTa)(s x:Str)(h:x∈tgt l s):∃a∈l,a.Address=s/\x∈a.To:=by
 unfold tgt tgtO at h;cases hf:l.find? (fun a=>a.Address==s) with
 | none=>rw[hf]at h;simp at h
 | some a=>
  rw[hf]at h;have:=List.find?_some hf;exact ⟨a,List.mem_of_find?_eq_some hf,by simpa using this,by simpa using h⟩
structure Inv (l:List jTa) (U:List Str) (k:Nat) (out:List Str):Prop where
 nd:out.Nodup
 sub:∀x∈out,x∈U
 le:k<=out.length
theorem Inv.len{l:List jTa}{U:List Str}{k:Nat}{out:List Str}(h:Inv l U k out):out.length<=U.length:=nodup_le h.nd h.sub
theorem Inv.step{l:List jTa}{from_:List Str}{k:Nat}{out:List Str}(h:Inv l (univ l from_) k out){s:Str}(hs:out[k]? =some s):Inv l (univ l from_) (k+1) (zab out (tgt l s)):=by
 refine ⟨k6b _ h.nd,fun x hx=>?_,?_⟩
 .rcases (wwb _ _ _).1 hx with h1 | h1
  .exact h.sub x h1
  obtain ⟨a,ha,_,hxa⟩:=tgt_sub l s x h1;exact jCj.2 (.inr (List.mem_flatMap.2 ⟨a,ha,hxa⟩))
 have:=(zYb (tgt l s) out).length_le;have:=zEa hs;omega
theorem vFb{α β:Type}(f:α->β)(l:List α):∀o:List β,l.foldl (fun o x=>o++ [f x]) o=o++l.map f:=by
 induction l with
 | nil=>intro o;simp
 | cons x l ih=>intro o;simp[ih]
instance:DecidableEq zja:=fun a b=>decidable_of_iff (a.Name=b.Name/\a.Value=b.Value) (by cases a;cases b;simp)
instance:DecidableEq zya:=fun a b=>decidable_of_iff (a.Fields=b.Fields/\a.Body=b.Body) (by cases a;cases b;simp)
instance:DecidableEq kia:=fun a b=>decidable_of_iff (a.Envelope=b.Envelope/\a.Message=b.Message) (by cases a;cases b;simp)
def vOa(m:kia):Prop:=J3a m.Envelope/\J9a m.Message
theorem Vwa{α:Type}{lim:Nat}(l:List α)(h:l.length<=lim):(nilE l.isEmpty (some ([]:List α)) ((app lim ([]:List α) l).bind fun v=>some v))=some l:=by
 rw[qma (by simpa using h)];simp only[jDg,jAb];exact ybb _ _ _ (fun he=>by rw[List.isEmpty_iff.1 he])
theorem KLa(l:List zja)(h:l.length<=1048576):kua l=some l:=Vwa l (by omega)
theorem ZBa(m:kia)(h:vOa m):qla m=some m:=by
 obtain ⟨⟨_,_,h1,_⟩,⟨h2,_⟩,h3⟩:=h;unfold qla;rw[Vwa m.Envelope.To (by omega)];simp only[jAb];rw[KLa _ h2,Vwa m.Message.Body (by omega)];rfl
theorem WXa{α:Type}{L:List α}{i:Nat}{x:α}(h:L[i]? =some x):L.set i x=L:=by
 apply List.ext_getElem?;intro j;rw[jDu];split
 .rename_i hij;subst hij;split
  .exact h.symm
  rename_i hn;exact absurd (zEa h) hn
 rfl
theorem delAt_eq{α:Type}(L:List α)(k:Nat)(z:α)(hk:k < L.length)(hl:L.length<=1048576):((cut3 L (k:Int) ((w64 ((k:Int)+1))) ((L.length:Int))).bind fun v34=>(bif ((k:Int)==(w64 ((k:Int)+1))) then some L else (cut L 0 (k:Int)).bind fun v37=>(cut L ((w64 ((k:Int)+1))) (L.length:Int)).bind fun v39=>(shft L (k:Int) ((w64 ((k:Int)+1)))).bind fun v41=>(Yia v41 (((((Int.toNat (k:Int))+(L.length - (Int.toNat ((w64 ((k:Int)+1)))))):Nat):Int)) ((L.length:Int))).bind fun v43=>some ((List.take ((Int.toNat (k:Int))+(L.length - (Int.toNat ((w64 ((k:Int)+1)))))) ((clr0 v41 (Int.toNat (((((Int.toNat (k:Int))+(L.length - (Int.toNat ((w64 ((k:Int)+1)))))):Nat):Int))) z))))))=some (L.take k++L.drop (k+1)):=by
 rw[sc k (by omega)];have e1:cut3 L (k:Int) ((k+1:Nat):Int) (L.length:Int)=some ():=by unfold cut3;rw[if_pos ⟨by omega,by omega,by omega,by omega⟩]
 have e2:((k:Int)==((k+1:Nat):Int))=false:=by rw[beq_eq_false_iff_ne];omega
 rw[e1,e2,Vma (by omega),Qwa (by omega)];simp only[jAb,cond_false,jAy];have e3:shft L (k:Int) ((k+1:Nat):Int)=some (L.take k++L.drop (k+1)++L.drop (k+(L.length - (k+1)))):=by
  unfold shft;rw[if_pos ⟨by omega,by omega,by omega⟩];simp only[jAy]
 rw[e3];simp only[jAb];have hlen:(L.take k++L.drop (k+1)++L.drop (k+(L.length - (k+1)))).length=L.length:=by simp;omega
 have e4:Yia (L.take k++L.drop (k+1)++L.drop (k+(L.length - (k+1)))) ((k+(L.length - (k+1)):Nat):Int) (L.length:Int)=some ():=by
  unfold Yia;rw[if_pos ⟨by omega,by omega,by rw[hlen]⟩]
 rw[e4];simp only[jAb];rw[yWb _ _ _ (by rw[hlen];omega)];have e5:(L.take k++L.drop (k+1)).length=k+(L.length - (k+1)):=by simp;omega
 rw[<-e5,List.take_left'];rfl
theorem Vxa(m:zya)(hf:m.Fields.length<=1048576):w3a m m=some true:=by
 unfold w3a;have e1:((m.Fields.length:Int) !=(m.Fields.length:Int))=false:=by simp
 have e2:(m.Body !=m.Body)=false:=by simp
 rw[e1,e2];simp only[cond_false,jAb];rw[zZa m.Fields (fun _ _=>none) (.inl ()) .inr]
 .have:kda (fun _ _=>(none:Option Bool)) 0 m.Fields=none:=by rw[vta];intro i x _;rfl
  simp only[jAb];rw[this];rfl
 .unfold wFa;rw[zCa];rfl
 intro i f hx;have hi:=zEa hx;unfold wFa;rw[z1a hx,zva hx];simp only[cond_true,jAb,sc i (by omega)];simp[kWa]
theorem YNa(m:kia)(h1:m.Envelope.To.length<=1048576)(h2:m.Message.Fields.length<=1048576):Zsa m m=some true:=by
 unfold Zsa;have e1:(m.Envelope.From !=m.Envelope.From)=false:=by simp
 have e2:(m.Envelope.Id !=m.Envelope.Id)=false:=by simp
 have e3:((m.Envelope.To.length:Int) !=(m.Envelope.To.length:Int))=false:=by simp
 rw[e1,e2,e3];simp only[cond_false,jAb];rw[zZa m.Envelope.To (fun _ _=>none) (.inl ()) .inr]
 .have:kda (fun _ _=>(none:Option Bool)) 0 m.Envelope.To=none:=by rw[vta];intro i x _;rfl
  simp only[jAb];rw[this];simp only[Option.elim_none,Sum.elim_inl];rw[Vxa _ h2];rfl
 .unfold jea;rw[zCa];rfl
 intro i f hx;have hi:=zEa hx;unfold jea;rw[z1a hx,zva hx];simp only[cond_true,jAb,sc i (by omega)];simp[kWa]
theorem wxb{m:kia}(h:kia.bk m<=1048576):vOa m:=by
 have hb:kia.bk m=zGa.bk m.Envelope+zya.bk m.Message+1:=rfl;exact ⟨yMb (by omega),yXb (by omega)⟩
def wBad(w:zea)(r:zca):Bool:= !(w.Recipient==r) || (!(w.Result==0) && !(w.Result==1) && !(w.Result==3)) || (w.Busy && !(w.Result==0))
def opnW(w:zea):Bool:=w.Result==0
def Qia(e:zba):Bool:=decide (e.To.length=e.Mail.Envelope.To.length) && !((e.To.zip e.Mail.Envelope.To).any fun p=>wBad p.1 p.2) && e.To.any opnW
theorem yYb(w:zea)(r:zca):((bif (!(kWa [(w.Recipient.Address==r.Address),(w.Recipient.Notify==r.Notify)])) then some true else (bif (w.Result !=0) then (bif (w.Result !=1) then (bif (w.Result !=3) then some true else (bif w.Busy then some ((w.Result !=0)) else some false)) else (bif w.Busy then some ((w.Result !=0)) else some false)) else (bif w.Busy then some ((w.Result !=0)) else some false))):Option Bool)=some (wBad w r):=by
 rw[rec_eq];unfold wBad;by_cases h0:w.Result=0
 .rw[h0];cases w.Recipient==r <;> cases w.Busy <;> rfl
 have e0:(w.Result==0)=false:=beq_eq_false_iff_ne.2 h0;simp only[bne,e0];cases w.Recipient==r <;> cases w.Busy <;> cases w.Result==1 <;> cases w.Result==3 <;> rfl
theorem yZb{α β:Type}{a:List α}{b:List β}{p:List (α × β)}{x:α × β}{r:List (α × β)}(h:a.zip b=p++x::r):a[p.length]? =some x.1/\b[p.length]? =some x.2:=by
 have:(a.zip b)[p.length]? =some x:=by rw[h];simp
 rw[List.getElem?_zip_eq_some]at this;exact this
theorem q0b{β:Type}(q:zea->Bool):∀{a:List zea} {b:List β},a.length=b.length->((a.zip b).any fun p=>q p.1)=a.any q
 | [],_,_=>by simp
 | x::a,[],h=>by simp at h
 | x::a,y::b,h=>by simp only[List.zip_cons_cons,jDt];rw[q0b q (by simpa using h)]
theorem Kba(e:zba)(h:e.To.length<=1048576):vla e=some (Qia e):=by
 unfold vla Qia;by_cases hl:e.To.length=e.Mail.Envelope.To.length
 .rw[show ((e.To.length:Int) !=(e.Mail.Envelope.To.length:Int))=false by rw[hl];simp];simp only[cond_false];have hz:(e.To.zip e.Mail.Envelope.To).length=e.To.length:=by rw[List.length_zip];omega
  have hloop:iter (qCa e) (false,0)=some (if (e.To.zip e.Mail.Envelope.To).any (fun p=>wBad p.1 p.2) then .inr false else .inl (false || (e.To.zip e.Mail.Envelope.To).any fun p=>opnW p.1)):=by
   refine KGa (e.To.zip e.Mail.Envelope.To) (fun n s=>(s,(n:Int))) (fun n r s=>(if r.any (fun p=>wBad p.1 p.2) then .inr false else .inl (s || r.any fun p=>opnW p.1):Bool ⊕ Bool)) (fun s=>?_) (fun p x r s hp=>?_) false rfl
   .unfold qCa;dsimp only;rw[hz,zCa];simp
   obtain ⟨g1,g2⟩:=yZb hp;have hlt:=zEa g1;have hb:qCa e (s,(p.length:Int))=some (if wBad x.1 x.2 then .out (.inr false) else .cont (s || opnW x.1,((p.length+1:Nat):Int))):=by
    unfold qCa vCa;dsimp only;rw[z1a g1,zva g1,zva g2];simp only[cond_true,jAb,yYb,sc _ (show p.length < 9223372036854775807 by omega)];unfold opnW;cases wBad x.1 x.2 <;> cases s <;> rfl
   rw[hb];cases hw:wBad x.1 x.2 with
   | true=>left;simp[hw]
   | false=>right;exact ⟨_,rfl,by simp only[jDt,hw,jCy,Bool.or_assoc]⟩
  rw[hloop];simp only[jCy,q0b opnW hl];rw[decide_eq_true hl];cases (e.To.zip e.Mail.Envelope.To).any (fun p=>wBad p.1 p.2) <;> rfl
 rw[show ((e.To.length:Int) !=(e.Mail.Envelope.To.length:Int))=true by simp;omega,decide_eq_false hl];rfl
theorem YOa(e:zba)(h:e.To.length<=1048576):wQa e=some (if Qia e then 0 else 5):=by
 unfold wQa Qia;by_cases hl:e.To.length=e.Mail.Envelope.To.length
 .rw[show ((e.To.length:Int) !=(e.Mail.Envelope.To.length:Int))=false by rw[hl];simp];simp only[cond_false];have hz:(e.To.zip e.Mail.Envelope.To).length=e.To.length:=by rw[List.length_zip];omega
  have hloop:iter (vaa e) (0,0)=some (if (e.To.zip e.Mail.Envelope.To).any (fun p=>wBad p.1 p.2) then .inr 5 else .inl (0+(((e.To.zip e.Mail.Envelope.To).countP fun p=>opnW p.1:Nat):Int))):=by
   refine wSa (e.To.zip e.Mail.Envelope.To) (fun n (s:Int)=>(s,(n:Int))) (fun n r s=>(if r.any (fun p=>wBad p.1 p.2) then .inr 5 else .inl (s+((r.countP fun p=>opnW p.1:Nat):Int)):Int ⊕ Int)) (fun n r s=>0<=s/\s<=(n:Int)) (fun s _=>?_) (fun p x r s hp hi=>?_) 0 rfl (by simp)
   .unfold vaa;dsimp only;rw[hz,hl,zCa];simp
   obtain ⟨g1,g2⟩:=yZb hp;have hlt:=zEa g1;have hb:vaa e (s,(p.length:Int))=some (if wBad x.1 x.2 then .out (.inr 5) else .cont (if opnW x.1 then s+1 else s,((p.length+1:Nat):Int))):=by
    unfold vaa v8a;dsimp only;rw[z1a g2,zva g1,zva g2];simp only[cond_true,jAb,yYb,sc _ (show p.length < 9223372036854775807 by omega)];rw[k6a (by omega) (by omega)];unfold opnW;cases wBad x.1 x.2 <;> cases x.1.Result==0 <;> rfl
   rw[hb];cases hw:wBad x.1 x.2 with
   | true=>left;simp[hw]
   | false=>
    right;refine ⟨_,rfl,?_,?_⟩
    .simp only[jDt,hw,jCy,List.countP_cons];split
     .rfl
     cases opnW x.1 <;> simp <;> omega
    cases opnW x.1 <;> simp <;> omega
  rw[hloop];rw[decide_eq_true hl];have hc:(((e.To.zip e.Mail.Envelope.To).countP fun p=>opnW p.1:Nat):Int)=0↔e.To.any opnW=false:=by
   rw[<-q0b (b:=e.Mail.Envelope.To) opnW hl,jCi];rw[show (((e.To.zip e.Mail.Envelope.To).countP fun p=>opnW p.1:Nat):Int)=0↔((e.To.zip e.Mail.Envelope.To).countP fun p=>opnW p.1)=0 by omega,List.countP_eq_zero]
  cases hb:(e.To.zip e.Mail.Envelope.To).any (fun p=>wBad p.1 p.2) with
  | true=>rfl
  | false=>
   simp only[jAf,if_false,jAb,Sum.elim_inl,Int.zero_add];cases ho:e.To.any opnW with
   | false=>rw[hc.2 ho];rfl
   | true=>
    have:((((e.To.zip e.Mail.Envelope.To).countP fun p=>opnW p.1:Nat):Int)==0)=false:=by
     rw[beq_eq_false_iff_ne];intro h0;rw[hc.1 h0]at ho;cases ho
    rw[this];rfl
 rw[show ((e.To.length:Int) !=(e.Mail.Envelope.To.length:Int))=true by simp;omega,decide_eq_false hl];rfl
def yia(t:Int):Bool:=decide (-68719476736<=t) && decide (t<=68719476736)
theorem jfa(t:Int):wpa t=some (yia t):=by unfold wpa;rw[vea];rfl
def rngQ(e:zba):Bool:=yia e.Since && yia e.Due && decide (0<=e.Tries) && decide (e.Tries<=1000000)
def queR(nx:Int):Nat->Int->List zba->Option zpa
 | _,_,[]=>none
 | i,last,e::r=>if (yda e.Mail).Code !=0 then some ⟨(yda e.Mail).Code,i⟩ else if decide (e.Id<=last) || decide (nx<=e.Id) then some ⟨19,i⟩ else if !rngQ e then some ⟨3,i⟩ else if !Qia e then some ⟨5,i⟩ else queR nx (i+1) e.Id r
theorem KMa(nx:Int)(i:Nat)(last:Int)(e:zba)(r:List zba):queR nx i last (e::r)=if (yda e.Mail).Code !=0 then some ⟨(yda e.Mail).Code,i⟩ else if decide (e.Id<=last) || decide (nx<=e.Id) then some ⟨19,i⟩ else if !rngQ e then some ⟨3,i⟩ else if !Qia e then some ⟨5,i⟩ else queR nx (i+1) e.Id r:=rfl
def queF(q:zra):zpa:=if 20 < q.Entries.length then ⟨2, -1⟩ else if decide (q.Next < 0) || decide (1000000 < q.Next) then ⟨3, -2⟩ else (queR q.Next 0 (-1) q.Entries).getD ⟨0,0⟩
def wAa(q:zra):Prop:=q.Entries.length<=1048576/\∀e∈q.Entries,vOa e.Mail/\e.To.length<=1048576
theorem ZCa(q:zra)(h:wAa q):vHa q=some (queF q):=by
 unfold vHa queF;by_cases h20:20 < q.Entries.length
 .rw[decide_eq_true (show (20:Int) < (q.Entries.length:Int) by omega),if_pos h20];rfl
 rw[decide_eq_false (show ¬(20:Int) < (q.Entries.length:Int) by omega),if_neg h20];simp only[cond_false,jAb];have e1:((bif decide (q.Next < 0) then some true else some (decide (1000000 < q.Next))):Option Bool)=some (decide (q.Next < 0) || decide (1000000 < q.Next)):=by cases decide (q.Next < 0) <;> rfl
 rw[e1];simp only[jAb];cases hn:decide (q.Next < 0) || decide (1000000 < q.Next) with
 | true=>rfl
 | false=>
  simp only[cond_false,jAf,if_false];have hloop:iter (qqa q) (-1,0)=some ((queR q.Next 0 (-1) q.Entries).elim (.inl ()) .inr):=by
   refine KGa q.Entries (fun n (s:Int)=>(s,(n:Int))) (fun n r s=>((queR q.Next n s r).elim (.inl ()) .inr:Unit ⊕ zpa)) (fun s=>?_) (fun p x r s hp=>?_) (-1) rfl
   .unfold qqa;dsimp only;rw[zCa];rfl
   have hx:q.Entries[p.length]? =some x:=by rw[hp];simp
   have hlt:=zEa hx;obtain ⟨⟨m1,m2⟩,m3⟩:=h.2 x (jAd hx);have hb:qqa q (s,(p.length:Int))=some (if (yda x.Mail).Code !=0 then .out (.inr ⟨(yda x.Mail).Code,p.length⟩) else if decide (x.Id<=s) || decide (q.Next<=x.Id) then .out (.inr ⟨19,p.length⟩) else if !rngQ x then .out (.inr ⟨3,p.length⟩) else if !Qia x then .out (.inr ⟨5,p.length⟩) else .cont (x.Id,((p.length+1:Nat):Int))):=by
    unfold qqa;dsimp only;rw[z1a hx,zva hx];simp only[cond_true,jAb,yra x.Mail m1 m2,kba,zQa,yea,Kba x m3,sc _ (show p.length < 9223372036854775807 by omega)];have e2:decide (x.Tries < 0)= !decide (0<=x.Tries):=by rw[jAq];simp
    have e3:decide ((1000000:Int) < x.Tries)= !decide (x.Tries<=1000000):=by rw[jAq];simp
    rw[e2,e3];unfold rngQ yia;cases (yda x.Mail).Code !=0 <;> cases decide (x.Id<=s) <;> cases decide (q.Next<=x.Id) <;> cases (decide (-68719476736<=x.Since) && decide (x.Since<=68719476736)) <;> cases (decide (-68719476736<=x.Due) && decide (x.Due<=68719476736)) <;> cases decide (0<=x.Tries) <;> cases decide (x.Tries<=1000000) <;> cases Qia x <;> rfl
   rw[hb,KMa];split
   .exact .inl rfl
   split
   .exact .inl rfl
   split
   .exact .inl rfl
   split
   .exact .inl rfl
   exact .inr ⟨_,rfl,rfl⟩
  rw[hloop];cases queR q.Next 0 (-1) q.Entries <;> rfl
theorem y0a(q:zra)(h:wAa q):vna q=some (queF q):=by
 unfold vna queF;by_cases h20:20 < q.Entries.length
 .rw[decide_eq_true (show (20:Int) < (q.Entries.length:Int) by omega),if_pos h20];rfl
 rw[decide_eq_false (show ¬(20:Int) < (q.Entries.length:Int) by omega),if_neg h20];simp only[cond_false,vea,jAb,qTa];have e1:(!(decide (0<=q.Next) && decide (q.Next<=1000000)))=(decide (q.Next < 0) || decide (1000000 < q.Next)):=by
  rw[jAq];simp
 rw[e1];cases hn:decide (q.Next < 0) || decide (1000000 < q.Next) with
 | true=>rfl
 | false=>
  simp only[cond_false,jAf,if_false];have hnx:0<=q.Next/\q.Next<=1000000:=by simp at hn;omega
  have hloop:iter (qDa q) (-1,0)=some ((queR q.Next 0 (-1) q.Entries).elim (.inl ()) .inr):=by
   refine wSa q.Entries (fun n (s:Int)=>(s,(n:Int))) (fun n r s=>((queR q.Next n s r).elim (.inl ()) .inr:Unit ⊕ zpa)) (fun n r s=> -1<=s/\s<=1000000) (fun s _=>?_) (fun p x r s hp hi=>?_) (-1) rfl (by omega)
   .unfold qDa;dsimp only;rw[zCa];rfl
   have hx:q.Entries[p.length]? =some x:=by rw[hp];simp
   have hlt:=zEa hx;obtain ⟨⟨m1,m2⟩,m3⟩:=h.2 x (jAd hx);have hb:qDa q (s,(p.length:Int))=some (if (yda x.Mail).Code !=0 then .out (.inr ⟨(yda x.Mail).Code,p.length⟩) else if decide (x.Id<=s) || decide (q.Next<=x.Id) then .out (.inr ⟨19,p.length⟩) else if !rngQ x then .out (.inr ⟨3,p.length⟩) else if !Qia x then .out (.inr ⟨5,p.length⟩) else .cont (x.Id,((p.length+1:Nat):Int))):=by
    unfold qDa;dsimp only;rw[z1a hx,zva hx];simp only[cond_true,jAb,Zda x.Mail m1 m2,qTa,vea,jfa,YOa x m3,sc _ (show p.length < 9223372036854775807 by omega)];rw[k6a (n:=s+1) (by omega) (by omega),k6a (n:=q.Next - 1) (by omega) (by omega)];have e2:(!(decide (s+1<=x.Id) && decide (x.Id<=q.Next - 1)))=(decide (x.Id<=s) || decide (q.Next<=x.Id)):=by rw[jAq];simp;omega
    rw[e2];unfold rngQ;cases (yda x.Mail).Code !=0 <;> cases decide (x.Id<=s) || decide (q.Next<=x.Id) <;> cases yia x.Since <;> cases yia x.Due <;> cases decide (0<=x.Tries) <;> cases decide (x.Tries<=1000000) <;> cases Qia x <;> rfl
   rw[hb,KMa];split
   .exact .inl rfl
   split
   .exact .inl rfl
   split
   .exact .inl rfl
   split
   .exact .inl rfl
   rename_i h1 h2 h3 h4;refine .inr ⟨_,rfl,rfl,?_⟩;simp at h2;omega
  rw[hloop];cases queR q.Next 0 (-1) q.Entries <;> rfl
def q1b(l:List zba):Prop:=l.length<=1048576/\∀e∈l,vOa e.Mail/\e.To.length<=1048576
theorem wda(l:List zba)(h:l.length<=1048576):z3a l=some l:=Vwa l (by omega)
theorem Z1a(l:List zea)(h:l.length<=1048576):zPa l=some l:=Vwa l (by omega)
theorem YPa(L:List zba)(h:q1b L):iter (yNa L) (0,0,L)=some (L,L.length):=by
 refine KGa L (fun n (_:Unit)=>((n:Int),n,L)) (fun n r _=>(L,L.length)) (fun _=>?_) (fun p x r _ hp=>.inr ⟨(),?_,rfl⟩) () rfl
 .unfold yNa;dsimp only;rw[zCa];rfl
 have hx:L[p.length]? =some x:=by rw[hp];simp
 have hlt:=zEa hx;have h0:=h.1;obtain ⟨h1,h2⟩:=h.2 x (jAd hx);unfold yNa;dsimp only;rw[z1a hx,zva hx];simp only[cond_true,jAb,ZBa x.Mail h1,Z1a x.To h2,JTa,wib,jAy,jBb,if_true,WXa hx,zva hx,sc _ (show p.length < 9223372036854775807 by omega)]
theorem Wha(q:zra)(h:q1b q.Entries):iter (wIa q) (0,0,([]:List zba))=some (q.Entries,q.Entries.length):=by
 have:∀r p,q.Entries=p++r->iter (wIa q) ((p.length:Int),p.length,p)=some (q.Entries,q.Entries.length):=by
  intro r;induction r with
  | nil=>
   intro p hp;obtain rfl:q.Entries=p:=by simpa using hp
   refine zDa ?_;unfold wIa;dsimp only;rw[zCa];rfl
  | cons x r ih=>
   intro p hp;have hx:q.Entries[p.length]? =some x:=by rw[hp];simp
   have hlt:=zEa hx;have h0:=h.1;obtain ⟨h1,h2⟩:=h.2 x (jAd hx);have hb:wIa q ((p.length:Int),p.length,p)=some (.cont (((p.length+1:Nat):Int),p.length+1,p++ [x])):=by
    unfold wIa;dsimp only;rw[z1a hx,zva hx];simp only[cond_true,jAb];rw[qma (by simp;omega)];simp only[jAb,jDg,nall,if_true];rw[qma (by simp;omega)];simp only[jAb,sc _ (show p.length < 9223372036854775807 by omega)]
   rw[z2a hb];have:=ih (p++ [x]) (by simp[hp]);simpa using this
 exact this q.Entries [] rfl
theorem YQa(m:kia)(h:m.Envelope.To.length<=1048576):iter (wPa m) (0,([]:List zea))=some (m.Envelope.To.map fun r=>⟨r,0,false⟩):=by
 have:=(KHa m.Envelope.To (fun i acc=>(i,acc)) (fun acc r=>acc++ [(⟨r,0,false⟩:zea)]) (fun acc=>acc) (fun i acc=>acc.length=i) (body:=wPa m) (fun s hs=>by unfold wPa;simp[zCa]) (fun i r acc hr hi=>by
  have hlt:=zEa hr;refine ⟨?_,by simp[hi]⟩;unfold wPa;dsimp only;rw[z1a hr,zva hr];simp only[cond_true,jAb,sc i (by omega)];rw[qma (by simp;omega)];rfl) ([]:List zea) rfl).1
 rw[this,vFb (fun r=>(⟨r,0,false⟩:zea))];rfl
def newE(q:zra)(m:kia)(now:Int):zba:=⟨q.Next,m,now,0,now,m.Envelope.To.map fun r=>⟨r,0,false⟩⟩
def addP(q:zra)(m:kia)(now:Int):zra × Int × zpa:=
 if (queF q).Code !=0 then (⟨[],0⟩,0,queF q) else if (yda m).Code !=0 then (⟨[],0⟩,0,⟨(yda m).Code, -6⟩) else if !yia now then (⟨[],0⟩,0,⟨3, -7⟩) else
 if q.Entries.length=20∨q.Next=1000000 then (⟨[],0⟩,0,⟨2, -8⟩) else (⟨q.Entries++ [newE q m now],q.Next+1⟩,q.Next,⟨0,0⟩)
theorem YRa{nx:Int}:∀{l:List zba} {i:Nat} {last:Int},queR nx i last l=none->∀e∈l,(yda e.Mail).Code=0/\last < e.Id/\e.Id < nx/\rngQ e=true/\Qia e=true
 | [],_,_,_,e,he=>by cases he
 | x::l,i,last,h,e,he=>by
  rw[KMa]at h;split at h
  .cases h
  rename_i h1;split at h
  .cases h
  rename_i h2;split at h
  .cases h
  rename_i h3;split at h
  .cases h
  rename_i h4;simp at h1 h2 h3 h4;rcases jCf.1 he with rfl | he
  .exact ⟨h1,by omega,by omega,h3,h4⟩
  obtain ⟨a,b,c⟩:=YRa h e he;exact ⟨a,by omega,c⟩
theorem vGb{nx:Int}:∀{l:List zba} {i:Nat} {last:Int},queR nx i last l=none->l.Pairwise (fun a b=>a.Id < b.Id)
 | [],_,_,_=>List.Pairwise.nil
 | x::l,i,last,h=>by
  rw[KMa]at h;split at h
  .cases h
  split at h
  .cases h
  split at h
  .cases h
  split at h
  .cases h
  exact List.pairwise_cons.2 ⟨fun e he=>(YRa h e he).2.1,vGb h⟩
structure QueOk (q:zra):Prop where
 n:q.Entries.length<=20
 nx:0<=q.Next/\q.Next<=1000000
 ent:∀e∈q.Entries,(yda e.Mail).Code=0/\0<=e.Id/\e.Id < q.Next/\rngQ e=true/\Qia e=true
 ids:q.Entries.Pairwise (fun a b=>a.Id < b.Id)
theorem KNa{q:zra}(h:(queF q).Code=0):QueOk q/\queF q=⟨0,0⟩:=by
 unfold queF at h ⊢;by_cases h20:20 < q.Entries.length
 .rw[if_pos h20]at h;cases h
 rw[if_neg h20]at h ⊢;cases hn:decide (q.Next < 0) || decide (1000000 < q.Next) with
 | true=>rw[hn]at h;cases h
 | false=>
  rw[hn]at h;simp only[jAf,if_false]at h ⊢;cases hr:queR q.Next 0 (-1) q.Entries with
  | none=>
   refine ⟨⟨by omega,by simp at hn;omega,fun e he=>?_,vGb hr⟩,rfl⟩;obtain ⟨a,b,c⟩:=YRa hr e he;exact ⟨a,by omega,c⟩
  | some f=>
   exfalso;rw[hr]at h;simp only[jBk]at h;have aux:∀(l:List zba) (i:Nat) (last:Int),queR q.Next i last l=some f->f.Code≠0:=by
    intro l;induction l with
    | nil=>intro i last hh;cases hh
    | cons x l ih=>
     intro i last hh;rw[KMa]at hh;split at hh
     .rename_i h1;cases hh;simpa using h1
     split at hh
     .cases hh;show (19:Int)≠0;decide
     split at hh
     .cases hh;show (3:Int)≠0;decide
     split at hh
     .cases hh;show (5:Int)≠0;decide
     exact ih _ _ hh
   exact aux _ _ _ hr h
theorem k7b(q:zra)(m:kia)(now:Int)(hq:wAa q)(hm:vOa m):KDa q m now=some (addP q m now):=by
 unfold KDa addP;rw[ZCa q hq];simp only[jAb,kba,zQa,kLa,yea];by_cases hc:(queF q).Code=0
 .obtain ⟨ok,hF⟩:=KNa hc;have h1:((queF q).Code !=0)=false:=by simp[hc]
  have hn:=ok.n;have hnx:=ok.nx;have hto:=hm.1.2.2.1;rw[h1,yra m hm.1 hm.2];simp only[jAb,cond_false,jAf,if_false];cases hmc:(yda m).Code !=0 with
  | true=>rfl
  | false=>
   simp only[cond_false,jAf,if_false];show (bif !yia now then _ else _)=_;cases yia now with
   | false=>rfl
   | true=>
    simp only[jBg,cond_false,jAf,if_false];have e1:((bif ((q.Entries.length:Int)==20) then some true else some ((q.Next==1000000))):Option Bool)=some (decide (q.Entries.length=20∨q.Next=1000000)):=by
     by_cases h20:q.Entries.length=20
     .rw[h20];simp
     rw[show ((q.Entries.length:Int)==20)=false by rw[beq_eq_false_iff_ne];omega];simp only[cond_false,Option.some.injEq];rw[jAq];simp[h20]
    rw[e1];simp only[jAb];by_cases hl:q.Entries.length=20∨q.Next=1000000
    .rw[decide_eq_true hl,if_pos hl];rfl
    rw[decide_eq_false hl,if_neg hl];simp only[cond_false];rw[wda _ hq.1];simp only[jAb];rw[YPa _ hq];simp only[jAb];rw[ZBa m hm,YQa m hto];simp only[jAb,nall,if_true];rw[qma (by simp;omega),k6a (by omega) (by omega)];rfl
 have h1:((queF q).Code !=0)=true:=by simpa using hc
 rw[h1];rfl
theorem q2b(q:zra)(m:kia)(now:Int)(hq:wAa q)(hm:vOa m):Vja q m now=some (addP q m now):=by
 unfold Vja addP;rw[y0a q hq];simp only[jAb,qTa,jfa];by_cases hc:(queF q).Code=0
 .obtain ⟨ok,hF⟩:=KNa hc;have h1:((queF q).Code !=0)=false:=by simp[hc]
  have h2:((queF q).Code==0)=true:=by simp[hc]
  have hn:=ok.n;have hnx:=ok.nx;have hto:=hm.1.2.2.1;rw[h1,h2,hF,Zda m hm.1 hm.2];simp only[jAb,cond_true,jAf,if_false];by_cases hmc0:(yda m).Code=0
  .have hmc:((yda m).Code !=0)=false:=by simp[hmc0]
   rw[hmc];simp only[cond_false,jAb,beq_self_eq_true,cond_true,jAf,if_false];cases yia now with
   | false=>rfl
   | true=>
    simp only[jBg,cond_false,jAf,if_false,jAb,beq_self_eq_true,cond_true];have e1:((bif ((q.Entries.length:Int)==20) then some true else some ((q.Next==1000000))):Option Bool)=some (decide (q.Entries.length=20∨q.Next=1000000)):=by
     by_cases h20:q.Entries.length=20
     .rw[h20];simp
     rw[show ((q.Entries.length:Int)==20)=false by rw[beq_eq_false_iff_ne];omega];simp only[cond_false,Option.some.injEq];rw[jAq];simp[h20]
    rw[e1];simp only[jAb];by_cases hl:q.Entries.length=20∨q.Next=1000000
    .rw[decide_eq_true hl,if_pos hl];rfl
    rw[decide_eq_false hl,if_neg hl];simp only[cond_false,jAb,bne_self_eq_false];rw[Wha _ hq];simp only[jAb];rw[show iter (QLa m) (0,([]:List zea))=some (m.Envelope.To.map fun r=>⟨r,0,false⟩) from YQa m hto];simp only[jAb,nall,if_true];rw[qma (by simp;omega),k6a (by omega) (by omega)];rfl
  have hmc:((yda m).Code !=0)=true:=by simpa using hmc0
  have hmc2:((yda m).Code==0)=false:=by simpa using hmc0
  rw[hmc];simp only[cond_true,jAb,hmc2,cond_false,hmc];rfl
 have h1:((queF q).Code !=0)=true:=by simpa using hc
 have h2:((queF q).Code==0)=false:=by simpa using hc
 rw[h1,h2];simp only[cond_false,jAb,h2,h1,cond_true];rfl
theorem Wia(q:zra)(h:wAa q):yOa q q=some true:=by
 unfold yOa;simp only[bne_self_eq_false,cond_false,jAb];rw[zZa q.Entries (fun _ _=>(none:Option Bool)) (.inl ()) .inr]
 .rw[vta.2 (fun _ _ _=>rfl)];rfl
 .unfold w7a;rw[zCa];rfl
 intro i e he;have hi:=zEa he;have h0:=h.1;obtain ⟨⟨m1,m2⟩,m3⟩:=h.2 e (jAd he);have hl2:iter (v9a e e) 0=some (.inl ()):=by
  rw[zZa e.To (fun _ _=>(none:Option Bool)) (.inl ()) .inr]
  .rw[vta.2 (fun _ _ _=>rfl)];rfl
  .unfold v9a;rw[zCa];rfl
  intro k w hw;have hk:=zEa hw;unfold v9a;rw[z1a hw,zva hw];simp only[cond_true,jAb,beq_self_eq_true,sc k (by omega)];rfl
 unfold w7a;rw[z1a he,zva he];simp only[cond_true,jAb,bne_self_eq_false,cond_false];rw[YNa e.Mail m1.2.2.1 m2.1.1];simp only[jAb,jBg,cond_false,hl2,Sum.elim_inl,sc i (by omega)];rfl
theorem bindC{α β:Type}{o:Option α}{v:α}{f:α->Option β}{r:Option β}(h:o=some v)(h2:f v=r):o.bind f=r:=by rw[h];exact h2
theorem y0b(a b:List UInt8)(h:a.length+b.length<=35184372088832):kTa [a,b]=some (a++b):=by
 have l1:iter (kza [a,b]) (0,0)=some ((a.length+b.length:Nat):Int):=by
  have s1:kza [a,b] (0,0)=some (.cont ((a.length:Int),1)):=by
   show (bif decide (w64 ((0:Int)+(a.length:Int)) < 0) then none else some (Step.cont (w64 ((0:Int)+(a.length:Int)),w64 ((0:Int)+1))):Option (Step (Int × Int) Int))=_;rw[show w64 ((0:Int)+(a.length:Int))=(a.length:Int) by rw[k6a (by omega) (by omega)];omega,decide_eq_false (by omega)];rfl
  have s2:kza [a,b] ((a.length:Int),1)=some (.cont (((a.length+b.length:Nat):Int),2)):=by
   show (bif decide (w64 ((a.length:Int)+(b.length:Int)) < 0) then none else some (Step.cont (w64 ((a.length:Int)+(b.length:Int)),w64 ((1:Int)+1))):Option (Step (Int × Int) Int))=_;rw[vwb _ _ (by omega),decide_eq_false (by omega)];rfl
  rw[z2a s1,z2a s2];exact zDa rfl
 have hl2:∀s:List UInt8,s.length=0->iter (kAa [a,b]) (0,s)=some (a++b):=by
  intro s hs;have hs0:s=[]:=jBi hs;subst hs0;have s1:kAa [a,b] (0,[])=some (.cont (1,a)):=by
   show ((app 140737488355328 [] a).bind fun v20=>some (Step.cont (w64 ((0:Int)+1),v20)):Option (Step (Int × List UInt8) (List UInt8)))=_;rw[qma (by simp;omega)];rfl
  have s2:kAa [a,b] (1,a)=some (.cont (2,a++b)):=by
   show ((app 140737488355328 a b).bind fun v20=>some (Step.cont (w64 ((1:Int)+1),v20)):Option (Step (Int × List UInt8) (List UInt8)))=_;rw[qma (by omega)];rfl
  rw[z2a s1,z2a s2];exact zDa rfl
 unfold kTa;rw[l1];simp only[jAb];rw[decide_eq_false (show ¬((a.length+b.length:Nat):Int) < 0 by omega),show w64 (((a.length+b.length:Nat):Int) - w64 (0 - 0))=((a.length+b.length:Nat):Int) by rw[show w64 (0 - 0)=0 from rfl,k6a (by omega) (by omega)];omega];simp only[cond_false];by_cases h0:a.length+b.length=0
 .rw[decide_eq_false (by omega)];have e1:a=[]:=jBi (by omega);have e2:b=[]:=jBi (by omega);subst e1;subst e2;simp only[cond_false];refine bindC (v:=[]) ?_ rfl;rw[z2a (show kXa [([]:List UInt8),[]] (0,[])=some (.cont (1,[])) from rfl),z2a (show kXa [([]:List UInt8),[]] (1,[])=some (.cont (2,[])) from rfl)];exact zDa rfl
 rw[decide_eq_true (by omega)];simp only[cond_true];unfold zrep;rw[if_pos (by omega)];simp only[jAb];rw[show cut (List.replicate ((a.length+b.length:Nat):Int).toNat (0:UInt8)) 0 0=some [] from (Vma (b:=0) (by simp)).trans (by simp)];simp only[jAb];rw[hl2 [] rfl];rfl
def spR(r:zca):List UInt8:=encT r.Address++num8 r.Notify
def spF(f:zja):List UInt8:=encT f.Name++encT f.Value
def spRs(l:List zca):List UInt8:=num8 (l.length:Int)++l.flatMap spR
def spFs(l:List zja):List UInt8:=num8 (l.length:Int)++l.flatMap spF
def spM(m:kia):List UInt8:=encT m.Envelope.From++spRs m.Envelope.To++encT m.Envelope.Id++spFs m.Message.Fields++encT m.Message.Body
def spA(r:zha):List UInt8:=num8 r.Attempt.Entry++encT r.Attempt.Domain++wnb r.Attempt.To++wnb r.Results
def spB(r:zha):List UInt8:=num8 r.Kind++num8 r.Now++(if r.Kind==1 then spM r.Mail else spA r)
def spE(r:zha):List UInt8:=encT (spB r)++num8 (w64 (sumB (spB r)))
structure kva (r:zha):Prop where
 mail:vOa r.Mail
 dom:r.Attempt.Domain.length<=1048576
 to:r.Attempt.To.length<=1048576
 res:r.Results.length<=1048576
theorem zZb{α:Type}(f:α->List UInt8)(B:Nat):∀l:List α,(∀x∈l,(f x).length<=B)->(l.flatMap f).length<=l.length * B
 | [],_=>by simp
 | x::l,h=>by
  have h1:=zZb f B l (fun y hy=>h y (by simp[hy]));have h2:=h x (by simp);rw[jDv,jAl,jCg,jAw];omega
theorem y1b{r:zca}(h:r.Address.length<=1048576):(spR r).length<=2097152:=by
 unfold spR;rw[jAl,q0a,kra];omega
theorem y2b{f:zja}(h1:f.Name.length<=1048576)(h2:f.Value.length<=1048576):(spF f).length<=4194304:=by
 unfold spF;rw[jAl,q0a,q0a];omega
theorem KOa{m:kia}(h:vOa m):m.Envelope.To.length<=1048576/\∀r∈m.Envelope.To,r.Address.length<=1048576:=by
 have:=h.1.2.2;exact ⟨this.1,this.2⟩
theorem Vya{m:kia}(h:vOa m):m.Message.Fields.length<=1048576/\∀f∈m.Message.Fields,f.Name.length<=1048576/\f.Value.length<=1048576:=by
 have:=h.2.1;exact ⟨this.1,this.2⟩
theorem vHb{m:kia}(h:vOa m):(spRs m.Envelope.To).length<=2199023255560:=by
 obtain ⟨h1,h2⟩:=KOa h;have:=zZb spR 2097152 m.Envelope.To (fun r hr=>y1b (h2 r hr));unfold spRs;rw[jAl,kra];have h3:=jAo 2097152 h1;omega
theorem vIb{m:kia}(h:vOa m):(spFs m.Message.Fields).length<=4398046511112:=by
 obtain ⟨h1,h2⟩:=Vya h;have:=zZb spF 4194304 m.Message.Fields (fun f hf=>y2b (h2 f hf).1 (h2 f hf).2);unfold spFs;rw[jAl,kra];have h3:=jAo 4194304 h1;omega
theorem y3b(l:List Int):(wnb l).length=8+8 * l.length:=by
 unfold wnb;rw[jAl,kra,Voa]
theorem q3b{r:zha}(h:kva r):(spB r).length<=17592186044416:=by
 have h1:=vHb h.mail;have h2:=vIb h.mail;have h3:=h.mail.1.1;have h4:=h.mail.1.2.1;have h5:=h.mail.2.2;have h6:=h.dom;have h7:=h.to;have h8:=h.res;unfold spB;split
 .unfold spM;simp only[jAl,kra,q0a];omega
 unfold spA;simp only[jAl,kra,q0a,y3b];omega
theorem z0b{α:Type}(l:List α)(f:α->List UInt8)(B0 B:Nat)(hB:B0+l.length * B<=26388279066624)(hf:∀x∈l,(f x).length<=B){A:Type}(mk:List UInt8->A){body:Int × A->Option (Step (Int × A) A)}
 (h0:∀s,body ((l.length:Int),mk s)=some (.out (mk s))) (h1:∀(i:Nat) x s,l[i]? =some x->s.length<=26388279066624->body ((i:Int),mk s)=some (.cont (((i+1:Nat):Int),mk (s++f x)))) (s:List UInt8) (hs:s.length<=B0):
 iter body (0,mk s)=some (mk (s++l.flatMap f)):=by
 refine wSa l (fun n (s:List UInt8)=>((n:Int),mk s)) (fun n r s=>mk (s++r.flatMap f)) (fun n r s=>s.length<=B0+n * B) (fun s _=>?_) (fun p x r s hp hi=>.inr ?_) s rfl (by simpa using hs)
 .rw[h0];simp
 have hx:l[p.length]? =some x:=by rw[hp];simp
 have hlt:=zEa hx;have hm:p.length * B<=l.length * B:=jAo _ (by omega);have hfx:=hf x (jAd hx);refine ⟨s++f x,h1 _ x s hx (by omega),by simp,?_⟩;rw[jAl,jAw];omega
theorem wnum8(n:Int)(o:List UInt8)(h:o.length<=70368744177664):iter (kfa n) (0,zla.mk o)=some ⟨o++num8 n⟩:=by
 have:=kVb n rfl 8 0 o rfl (by omega);rw[show iter (kfa n) (0,zla.mk o)=_ from this];simp[num8]
theorem z1b(r:zha)(h:kva r):Zya r=some (spB r):=by
 obtain ⟨t1,t2⟩:=KOa h.mail;obtain ⟨f1,f2⟩:=Vya h.mail;have l1:=vHb h.mail;have l2:=vIb h.mail;have h3:=h.mail.1.1;have h4:=h.mail.1.2.1;have h5:=h.mail.2.2;have h6:=h.dom;have h7:=h.to;have h8:=h.res;unfold Zya spB;rw[z0a _ _ (by simp)];simp only[jAb,jDg];rw[z0a _ _ (by rw[kra];omega)];simp only[jAb];have c0:(num8 r.Kind++num8 r.Now).length=16:=by rw[jAl,kra,kra]
 generalize num8 r.Kind++num8 r.Now=o at c0;cases hk:r.Kind==1 with
 | true=>
  simp only[cond_true,if_true];rw[kpa _ _ (by dsimp only;omega) (by omega)];simp only[jAb];have c1:(o++encT r.Mail.Envelope.From).length<=1048600:=by rw[jAl,q0a];omega
  rw[z0a _ _ (by dsimp only;omega)];simp only[jAb];have c2:(o++encT r.Mail.Envelope.From++num8 (r.Mail.Envelope.To.length:Int)).length<=1048608:=by rw[jAl,kra];omega
  have m1:=jAo 2097152 t1;rw[z0b r.Mail.Envelope.To spR 1048608 2097152 (by omega) (fun x hx=>y1b (t2 x hx)) zla.mk (body:=w9a r) (fun s=>by unfold w9a;dsimp only;rw[zCa];rfl) (fun i x s hx hs=>by
   have hi:=zEa hx;have hxa:=t2 x (jAd hx);unfold w9a;dsimp only;rw[z1a hx,zva hx];simp only[cond_true,jAb];rw[kpa _ _ (by dsimp only;omega) (by omega)];simp only[jAb];rw[z0a _ _ (by dsimp only;rw[jAl,q0a];omega)];simp only[jAb,sc i (by omega)];unfold spR;rw[jAv]) _ c2]
  simp only[jAb];have c3:(o++encT r.Mail.Envelope.From++num8 (r.Mail.Envelope.To.length:Int)++r.Mail.Envelope.To.flatMap spR).length<=2199024304200:=by
   unfold spRs at l1;rw[jAl]at l1;rw[jAl];omega
  rw[kpa _ _ (by dsimp only;omega) (by omega)];simp only[jAb];rw[z0a _ _ (by dsimp only;rw[jAl,q0a];omega)];simp only[jAb];have m2:=jAo 4194304 f1;rw[z0b r.Mail.Message.Fields spF 2199025352800 4194304 (by omega) (fun x hx=>y2b (f2 x hx).1 (f2 x hx).2) zla.mk (body:=yaa r) (fun s=>by unfold yaa;dsimp only;rw[zCa];rfl) (fun i x s hx hs=>by
   have hi:=zEa hx;obtain ⟨hx1,hx2⟩:=f2 x (jAd hx);unfold yaa;dsimp only;rw[z1a hx,zva hx];simp only[cond_true,jAb];rw[kpa _ _ (by dsimp only;omega) (by omega)];simp only[jAb];rw[kpa _ _ (by dsimp only;rw[jAl,q0a];omega) (by omega)];simp only[jAb,sc i (by omega)];unfold spF;rw[jAv]) _ (by rw[jAl,jAl,kra,q0a];omega)]
  simp only[jAb];rw[kpa _ _ (by
   dsimp only;unfold spFs at l2;rw[jAl]at l2;simp only[jAl,kra,q0a]at c3 ⊢;omega) (by omega)]
  unfold spM spRs spFs;simp[jAv]
 | false=>
  simp only[cond_false,jAf,if_false];rw[z0a _ _ (by dsimp only;omega)];simp only[jAb];rw[kpa _ _ (by dsimp only;rw[jAl,kra];omega) (by omega)];simp only[jAb];have c1:(o++num8 r.Attempt.Entry++encT r.Attempt.Domain).length<=1048700:=by simp only[jAl,kra,q0a];omega
  rw[z0a _ _ (by dsimp only;omega)];simp only[jAb];rw[z0b r.Attempt.To num8 1048800 8 (by omega) (fun x hx=>by rw[kra];omega) zla.mk (body:=yba r) (fun s=>by unfold yba;dsimp only;rw[zCa];rfl) (fun i x s hx hs=>by
   have hi:=zEa hx;unfold yba;dsimp only;rw[z1a hx,zva hx];simp only[cond_true,jAb];rw[show iter (ZVa x) (0,zla.mk s)=some ⟨s++num8 x⟩ from wnum8 x s (by omega)];simp only[jAb,sc i (by omega)]) _ (by rw[jAl,kra];omega)]
  simp only[jAb];rw[z0a _ _ (by dsimp only;rw[jAl,jAl,kra,Voa];omega)];simp only[jAb];rw[z0b r.Results num8 9437500 8 (by omega) (fun x hx=>by rw[kra];omega) zla.mk (body:=yca r) (fun s=>by unfold yca;dsimp only;rw[zCa];rfl) (fun i x s hx hs=>by
   have hi:=zEa hx;unfold yca;dsimp only;rw[z1a hx,zva hx];simp only[cond_true,jAb];rw[show iter (ZWa x) (0,zla.mk s)=some ⟨s++num8 x⟩ from wnum8 x s (by omega)];simp only[jAb,sc i (by omega)]) _ (by simp only[jAl,kra,Voa]at c1 ⊢;omega)]
  unfold spA wnb;simp[jAv]
theorem jGa(r:zha)(h:kva r):wRa r=some (spE r):=by
 have hl:=q3b h;unfold wRa spE;rw[z1b r h];simp only[jAb];rw[kpa _ _ (by simp) (by omega)];simp only[jAb];rw[kWb _ (by omega)];simp only[jAb];rw[z0a _ _ (by dsimp only;rw[jAl,q0a];simp;omega)];rfl
theorem zbb{K V:Type}[BEq K][LawfulBEq K](m:List (K × V))(k:K)(v:V)(x:K):mget (mput m k v) x=if k==x then some v else mget m x:=by
 induction m with
 | nil=>rfl
 | cons p m ih=>
  obtain ⟨k',v'⟩:=p;unfold mput;by_cases h:k' =k
  .subst h;simp only[beq_self_eq_true,if_true,mget];cases k' ==x <;> simp
  have h1:(k' ==k)=false:=by simpa using h
  rw[h1];simp only[jAf,if_false,mget];rw[ih];by_cases h2:k' =x
  .subst h2;have:(k==k')=false:=by simpa using fun h' =>h h'.symm
   simp[this]
  have:(k' ==x)=false:=by simpa using h2
  rw[this];simp
def wDom(w:zea):Str:=zWb w.Recipient.Address
def y1a(l:List zea):Prop:=l.length<=1048576/\∀w∈l,w.Recipient.Address.length<=1048576
def uwL(l:List zea)(d:Str):Bool:=l.any fun w=>w.Busy && wDom w==d
def uwP(e:zba)(d:Str):Bool:=uwL e.To d
def ySa(l:List zba)(d:Str):Nat:=l.countP fun e=>uwP e d
theorem KPa(s:Str)(h:s.length<=1048576):v7a s=some (zWb s):=by
 unfold v7a;rw[ZAa s (by omega)];simp only[jAb,wub]
theorem WAa(e:zba)(i:Nat)(w:zea)(h:y1a e.To)(hw:e.To[i]? =some w):Zwa e (i:Int)=some (wDom w):=by
 unfold Zwa;rw[zva hw];simp only[jAb];rw[zXb _ (h.2 w (jAd hw))];rfl
theorem QAa(e:zba)(d:Str)(h:y1a e.To):yna e d=some (uwP e d):=by
 unfold yna;rw[zZa e.To (fun _ w=>if w.Busy && wDom w==d then some true else none) (.inl ()) .inr,yoa]
 .simp only[jAb];show _=some (e.To.any fun w=>w.Busy && wDom w==d);cases e.To.any fun w=>w.Busy && wDom w==d <;> rfl
 .unfold yxa;rw[zCa];rfl
 intro i w hw;have hi:=zEa hw;have h0:=h.1;unfold yxa;rw[z1a hw,zva hw,WAa e i w h hw];simp only[cond_true,jAb,sc i (by omega)];cases w.Busy <;> cases wDom w==d <;> rfl
theorem y4b(l:List zba)(d:Str):ySa l d<=l.length:=List.countP_le_length
theorem Jsa(q:zra)(d:Str)(hl:q.Entries.length<=1048576)(h:∀e∈q.Entries,y1a e.To):jza q d=some (ySa q.Entries d:Int):=by
 unfold jza;have hloop:iter (wya q d) (0,0)=some ((0:Int)+(ySa q.Entries d:Int)):=by
  refine wSa q.Entries (fun n (s:Int)=>(s,(n:Int))) (fun n r s=>s+(ySa r d:Int)) (fun n r s=>0<=s/\s<=(n:Int)) (fun s _=>?_) (fun p x r s hp hi=>.inr ?_) 0 rfl (by simp)
  .unfold wya;dsimp only;rw[zCa];simp[ySa]
  have hx:q.Entries[p.length]? =some x:=by rw[hp];simp
  have hlt:=zEa hx;refine ⟨if uwP x d then s+1 else s,?_,?_,?_⟩
  .unfold wya;dsimp only;rw[z1a hx,zva hx];simp only[cond_true,jAb,QAa x d (h x (jAd hx)),sc _ (show p.length < 9223372036854775807 by omega)];rw[k6a (by omega) (by omega)];cases uwP x d <;> rfl
  .unfold ySa;rw[List.countP_cons];cases uwP x d <;> simp <;> omega
  split <;> omega
 rw[hloop];simp
theorem wyb(e:zba)(h:y1a e.To)(u0:List ((Int × Str) × Bool))(m0:List (Str × Int))(hu:∀d,(mget u0 (e.Id,d)).getD false=false)(hm:∀d,0<=(mget m0 d).getD 0/\(mget m0 d).getD 0<=1048576):
 ∃u m,iter (vIa e) (0,u0,m0)=some (u,m)/\(∀id d,(mget u (id,d)).getD false=(id==e.Id && uwP e d || (mget u0 (id,d)).getD false))/\∀d,(mget m d).getD 0=(mget m0 d).getD 0+(if uwP e d then 1 else 0):=by
 have h0:=h.1;have key:∀r p u m,e.To=p++r->(∀id d,(mget u (id,d)).getD false=(id==e.Id && uwL p d || (mget u0 (id,d)).getD false))->(∀d,(mget m d).getD 0=(mget m0 d).getD 0+(if uwL p d then 1 else 0))->
  ∃u2 m2,iter (vIa e) ((p.length:Int),u,m)=some (u2,m2)/\(∀id d,(mget u2 (id,d)).getD false=(id==e.Id && uwP e d || (mget u0 (id,d)).getD false))/\∀d,(mget m2 d).getD 0=(mget m0 d).getD 0+(if uwP e d then 1 else 0):=by
  intro r;induction r with
  | nil=>
   intro p u m hp h1 h2;obtain rfl:e.To=p:=by simpa using hp
   refine ⟨u,m,zDa ?_,h1,h2⟩;unfold vIa;dsimp only;rw[zCa];rfl
  | cons w r ih=>
   intro p u m hp h1 h2;have hx:e.To[p.length]? =some w:=by rw[hp];simp
   have hlt:=zEa hx;have hun:∀d,uwL (p++ [w]) d=(uwL p d || (w.Busy && wDom w==d)):=fun d=>by unfold uwL;simp
   have hb:vIa e ((p.length:Int),u,m)=some (.cont (((p.length+1:Nat):Int),if w.Busy && !uwL p (wDom w) then mput u (e.Id,wDom w) true else u,if w.Busy && !uwL p (wDom w) then mput m (wDom w) ((mget m (wDom w)).getD 0+1) else m)):=by
    unfold vIa;dsimp only;rw[z1a hx,zva hx];simp only[cond_true,jAb,KPa _ (h.2 w (jAd hx)),sc _ (show p.length < 9223372036854775807 by omega)];have e1:(mget u (e.Id,zWb w.Recipient.Address)).getD false=uwL p (wDom w):=by
     have:=h1 e.Id (wDom w);rw[hu]at this;have h3:(mget u (e.Id,wDom w)).getD false=uwL p (wDom w):=by simpa using this
     exact h3
    rw[e1];have e2:w64 ((mget m (zWb w.Recipient.Address)).getD 0+1)=(mget m (wDom w)).getD 0+1:=by
     have:=h2 (wDom w);have:=hm (wDom w);refine k6a ?_ ?_
     .show _<=(mget m (wDom w)).getD 0+1;split at * <;> omega
     show (mget m (wDom w)).getD 0+1<=_;split at * <;> omega
    rw[e2];cases w.Busy <;> cases uwL p (wDom w) <;> rfl
   rw[z2a hb];have:=ih (p++ [w]) (if w.Busy && !uwL p (wDom w) then mput u (e.Id,wDom w) true else u) (if w.Busy && !uwL p (wDom w) then mput m (wDom w) ((mget m (wDom w)).getD 0+1) else m) (by simp[hp]) (fun id d=>by
    rw[hun];cases hc:w.Busy && !uwL p (wDom w) with
    | true=>
     simp only[jAs,jBs]at hc;rw[if_pos rfl,zbb];by_cases hk:(e.Id,wDom w)=(id,d)
     .cases hk;simp[hc.1]
     have hk' :((e.Id,wDom w)==(id,d))=false:=beq_eq_false_iff_ne.2 hk;rw[hk'];simp only[jAf,if_false];rw[h1];by_cases hi:id=e.Id
     .subst hi;have hd:(wDom w==d)=false:=beq_eq_false_iff_ne.2 fun h=>hk (by rw[h])
      simp[hd]
     have:(id==e.Id)=false:=beq_eq_false_iff_ne.2 hi;simp[this]
    | false=>
     rw[if_neg (by decide),h1];cases hbz:w.Busy with
     | false=>simp
     | true=>
      rw[hbz]at hc;simp only[jDh,Bool.not_eq_eq_eq_not,jDb]at hc;by_cases hd:wDom w=d
      .subst hd;simp[hc]
      have:(wDom w==d)=false:=beq_eq_false_iff_ne.2 hd;simp[this]) (fun d=>by
    rw[hun];cases hc:w.Busy && !uwL p (wDom w) with
    | true=>
     simp only[jAs,jBs]at hc;rw[if_pos rfl,zbb];by_cases hk:wDom w=d
     .subst hk;simp only[beq_self_eq_true,if_true,jBk];rw[h2,hc.1,hc.2];simp
     have hk' :(wDom w==d)=false:=beq_eq_false_iff_ne.2 hk;rw[hk'];simp only[jAf,if_false];rw[h2];simp
    | false=>
     rw[if_neg (by decide),h2];cases hbz:w.Busy with
     | false=>simp
     | true=>
      rw[hbz]at hc;simp only[jDh,Bool.not_eq_eq_eq_not,jDb]at hc;by_cases hd:wDom w=d
      .subst hd;simp[hc]
      have:(wDom w==d)=false:=beq_eq_false_iff_ne.2 hd;simp[this])
   simpa using this
 exact key e.To [] u0 m0 rfl (fun id d=>by simp[uwL]) (fun d=>by simp[uwL])
theorem busy_eq(q:zra)(hl:q.Entries.length<=20)(h:∀e∈q.Entries,y1a e.To)(hid:q.Entries.Pairwise (fun a b=>a.Id < b.Id)):
 ∃u m,iter (wxa q) (0,([]:List ((Int × Str) × Bool)),([]:List (Str × Int)))=some (u,m)/\(∀id d,(mget u (id,d)).getD false=q.Entries.any fun e=>id==e.Id && uwP e d)/\∀d,(mget m d).getD 0=(ySa q.Entries d:Int):=by
 have key:∀r p u m,q.Entries=p++r->(∀id d,(mget u (id,d)).getD false=p.any fun e=>id==e.Id && uwP e d)->(∀d,(mget m d).getD 0=(ySa p d:Int))->
  ∃u2 m2,iter (wxa q) ((p.length:Int),u,m)=some (u2,m2)/\(∀id d,(mget u2 (id,d)).getD false=q.Entries.any fun e=>id==e.Id && uwP e d)/\∀d,(mget m2 d).getD 0=(ySa q.Entries d:Int):=by
  intro r;induction r with
  | nil=>
   intro p u m hp h1 h2;have hp' :q.Entries=p:=by simpa using hp
   refine ⟨u,m,zDa ?_,by rw[hp'];exact h1,by rw[hp'];exact h2⟩;unfold wxa;dsimp only;rw[<-hp',zCa];rfl
  | cons e r ih=>
   intro p u m hp h1 h2;have hx:q.Entries[p.length]? =some e:=by rw[hp];simp
   have hlt:=zEa hx;obtain ⟨u',m',hin,i1,i2⟩:=wyb e (h e (jAd hx)) u m (fun d=>by
    rw[h1,jCi];intro x hxp hc;rw[hp,List.pairwise_append]at hid;have:=hid.2.2 x hxp e (by simp);simp at hc;omega) (fun d=>by
    rw[h2];have:=y4b p d;have:p.length<=20:=by rw[hp]at hl;simp at hl;omega
    omega)
   have hb:wxa q ((p.length:Int),u,m)=some (.cont (((p.length+1:Nat):Int),u',m')):=by
    unfold wxa;dsimp only;rw[z1a hx,zva hx];simp only[cond_true,jAb,hin,sc _ (show p.length < 9223372036854775807 by omega)]
   rw[z2a hb];have:=ih (p++ [e]) u' m' (by simp[hp]) (fun id d=>by
    rw[i1,h1,List.any_append];simp[Bool.or_comm]) (fun d=>by
    have e1:ySa (p++ [e]) d=ySa p d+(if uwP e d then 1 else 0):=by
     unfold ySa;rw[List.countP_append,List.countP_cons,List.countP_nil];simp
    rw[i2,h2,e1];split <;> simp)
   simpa using this
 exact key q.Entries [] [] [] rfl (fun id d=>by simp[mget]) (fun d=>by simp[mget,ySa])
section
section
variable {α:Type} (key:α->Int)
end
end
theorem y5b:∀{l:List zba},l.Pairwise (fun a b=>a.Id < b.Id)->∀x∈l,∀y∈l,x.Id=y.Id->x=y
 | [],_,x,hx,_,_,_=>by cases hx
 | a::l,h,x,hx,y,hy,he=>by
  obtain ⟨h1,h2⟩:=List.pairwise_cons.1 h;rcases jCf.1 hx with rfl | hx' <;> rcases jCf.1 hy with rfl | hy'
  .rfl
  .have:=h1 y hy';omega
  .have:=h1 x hx';omega
  exact y5b h2 x hx' y hy' he
def wJa(q:zra):Prop:=∀e∈q.Entries,y1a e.To
def posI(l:List zba)(id:Int):Int:=(kda (fun i x=>if x.Id==id then some ((i:Nat):Int) else none) 0 l).getD (-1)
theorem YSa(l:List zba)(id:Int):(posI l id= -1/\∀x∈l,x.Id≠id)∨∃(n:Nat) (x:zba),posI l id=(n:Int)/\l[n]? =some x/\x.Id=id:=by
 unfold posI;cases hf:kda (fun i x=>if x.Id==id then some ((i:Nat):Int) else none) 0 l with
 | none=>
  left;refine ⟨rfl,fun x hx he=>?_⟩;rw[vta]at hf;obtain ⟨i,hi⟩:=List.mem_iff_getElem?.1 hx;have:=hf i x hi;simp[he]at this
 | some z=>
  right;obtain ⟨i,x,h1,h2⟩:=ZZa hf;by_cases he:x.Id=id
  .simp[he]at h2;exact ⟨i,x,by simp[<-h2],h1,he⟩
  simp[he]at h2
def toR(e:zba)(dom:Str)(on:Bool):Nat->Int->List Int->Option zpa
 | _,_,[]=>none
 | i,last,k::r=>if decide (k<=last) || decide ((e.To.length:Int)<=k) then some ⟨3,i⟩ else match e.To[k.toNat]? with
  | none=>none
  | some w=>if wDom w !=dom then some ⟨5,i⟩ else if w.Result !=0 || w.Busy !=on then some ⟨8,i⟩ else toR e dom on (i+1) k r
def attP(q:zra)(a:zxa)(on:Bool):Int × zpa:=
 if posI q.Entries a.Entry= -1 then (0,⟨6, -3⟩) else match q.Entries[(posI q.Entries a.Entry).toNat]? with
  | none=>(0,⟨6, -3⟩)
  | some e=>if a.To.length=0∨e.To.length < a.To.length then (0,⟨2, -4⟩) else match toR e a.Domain on 0 (-1) a.To with
   | some f=>(0,f)
   | none=>(posI q.Entries a.Entry,⟨0,0⟩)
theorem att_loop(e:zba)(a:zxa)(on:Bool)(he:y1a e.To)(hl:a.To.length<=1048576):∀(r p:List Int) (last:Int),a.To=p++r->(p=[]/\last= -1∨0<=last/\∃p',p=p' ++ [last])->
 iter (kVa a on e) (p.length:Int)=some (match toR e a.Domain on p.length last r with | some f=>.inr (0,f) | none=>.inl ()):=by
 intro r;have h0:=he.1;induction r with
 | nil=>
  intro p last hp hc;have hp' :a.To=p:=by simpa using hp
  refine zDa ?_;unfold kVa;rw[<-hp',zCa];rfl
 | cons k r ih=>
  intro p last hp hc;have hx:a.To[p.length]? =some k:=by rw[hp];simp
  have hlt:=zEa hx;have hcond:((bif decide (k < 0) then some true else (bif decide ((e.To.length:Int)<=k) then some true else (bif decide (0 < (p.length:Int)) then (idx a.To ((w64 ((p.length:Int) - 1)))).bind fun v38=>some (decide (k<=v38)) else some false))):Option Bool)=some (decide (k<=last) || decide ((e.To.length:Int)<=k)):=by
   rcases hc with ⟨rfl,rfl⟩ | ⟨hl0,p',rfl⟩
   .have:decide (k < 0)=decide (k<= -1):=by congr 1;apply propext;omega
    rw[this];simp only[jCq];cases decide (k<= -1) <;> cases decide ((e.To.length:Int)<=k) <;> rfl
   have h1:decide (0 < (((p' ++ [last]).length:Nat):Int))=true:=decide_eq_true (by rw[jAl,jCt];omega);have h2:idx a.To ((w64 (((p' ++ [last]).length:Int) - 1)))=some last:=by
    rw[show (((p' ++ [last]).length:Int) - 1)=(p'.length:Int) by simp,Jna _ (by simp at hlt;omega)];rw[V9a,hp];simp
   rw[h1,h2];simp only[cond_true,jAb];by_cases hk:k < 0
   .rw[decide_eq_true hk,decide_eq_true (show k<=last by omega)];rfl
   rw[decide_eq_false hk];cases decide ((e.To.length:Int)<=k) <;> cases decide (k<=last) <;> rfl
  unfold toR;cases hq:decide (k<=last) || decide ((e.To.length:Int)<=k) with
  | true=>
   rw[if_pos rfl];refine zDa ?_;unfold kVa;rw[z1a hx,zva hx];simp only[cond_true,jAb];rw[hcond,hq];rfl
  | false=>
   rw[if_neg (by decide)];simp at hq;have hlast: -1<=last:=by rcases hc with ⟨_,rfl⟩ | ⟨h,_⟩ <;> omega
   obtain ⟨kn,rfl⟩:∃kn:Nat,k=(kn:Int):=⟨k.toNat,by omega⟩;have hkl:kn < e.To.length:=by omega
   have hw:e.To[kn]? =some e.To[kn]:=jAh hkl;generalize e.To[kn]=w at hw;have hmem:=jAd hw;have hqf:(decide ((kn:Int)<=last) || decide ((e.To.length:Int)<=(kn:Int)))=false:=by simp;omega
   have hb:kVa a on e (p.length:Int)=some (if wDom w !=a.Domain then .out (.inr (0,⟨5,p.length⟩)) else if w.Result !=0 || w.Busy !=on then .out (.inr (0,⟨8,p.length⟩)) else .cont ((p.length+1:Nat):Int)):=by
    unfold kVa;rw[z1a hx,zva hx];simp only[cond_true,jAb];rw[hcond,hqf];simp only[jAb,cond_false,zva hw,KPa _ (he.2 w hmem),zQa,sc _ (show p.length < 9223372036854775807 by omega)];show _=some (if wDom w !=a.Domain then _ else _);unfold wDom;cases (zWb w.Recipient.Address !=a.Domain) <;> cases (w.Result !=0) <;> cases (w.Busy !=on) <;> rfl
   simp only[jAy,hw];cases h1:wDom w !=a.Domain with
   | true=>rw[h1]at hb;rw[zDa hb];rfl
   | false=>
    rw[h1]at hb;cases h2:w.Result !=0 || w.Busy !=on with
    | true=>rw[h2]at hb;rw[zDa hb];rfl
    | false=>
     rw[h2]at hb;simp only[jAf,if_false]at hb ⊢;rw[z2a hb];have:=ih (p++ [(kn:Int)]) (kn:Int) (by simp[hp]) (.inr ⟨by omega,p,rfl⟩);simpa using this
theorem y6b(e:zba)(a:zxa)(on:Bool)(he:y1a e.To)(hl:a.To.length<=1048576):∀(r p:List Int) (last:Int),a.To=p++r-> -1<=last->last<=1048576->
 iter (kFa a on e) (last,(p.length:Int))=some (match toR e a.Domain on p.length last r with | some f=>.inr (0,f) | none=>.inl ()):=by
 intro r;have h0:=he.1;induction r with
 | nil=>
  intro p last hp h1 h2;have hp' :a.To=p:=by simpa using hp
  refine zDa ?_;unfold kFa;dsimp only;rw[<-hp',zCa];rfl
 | cons k r ih=>
  intro p last hp h1 h2;have hx:a.To[p.length]? =some k:=by rw[hp];simp
  have hlt:=zEa hx;have hin:R_In k (w64 (last+1)) (w64 ((e.To.length:Int) - 1))=some (!(decide (k<=last) || decide ((e.To.length:Int)<=k))):=by
   rw[vea,k6a (n:=last+1) (by omega) (by omega),k6a (n:=(e.To.length:Int) - 1) (by omega) (by omega)]
   congr 1
   rw[jAq];simp;omega
  unfold toR;cases hq:decide (k<=last) || decide ((e.To.length:Int)<=k) with
  | true=>
   rw[if_pos rfl];refine zDa ?_;unfold kFa;dsimp only;rw[z1a hx,zva hx];simp only[cond_true,jAb];rw[hin,hq];rfl
  | false=>
   rw[if_neg (by decide)];have hqf:=hq;simp at hq;obtain ⟨kn,rfl⟩:∃kn:Nat,k=(kn:Int):=⟨k.toNat,by omega⟩;have hkl:kn < e.To.length:=by omega
   have hw:e.To[kn]? =some e.To[kn]:=jAh hkl;generalize e.To[kn]=w at hw;have hb:kFa a on e (last,(p.length:Int))=some (if wDom w !=a.Domain then .out (.inr (0,⟨5,p.length⟩)) else if w.Result !=0 || w.Busy !=on then .out (.inr (0,⟨8,p.length⟩)) else .cont ((kn:Int),((p.length+1:Nat):Int))):=by
    unfold kFa;dsimp only;rw[z1a hx,zva hx];simp only[cond_true,jAb];rw[hin,hqf];simp only[jAb,jDb,jBg,cond_false,zva hw,WAa e kn w he hw,qTa,sc _ (show p.length < 9223372036854775807 by omega)];cases (wDom w !=a.Domain) <;> cases (w.Result !=0) <;> cases (w.Busy !=on) <;> rfl
   simp only[jAy,hw];cases h3:wDom w !=a.Domain with
   | true=>rw[h3]at hb;rw[zDa hb];rfl
   | false=>
    rw[h3]at hb;cases h4:w.Result !=0 || w.Busy !=on with
    | true=>rw[h4]at hb;rw[zDa hb];rfl
    | false=>
     rw[h4]at hb;simp only[jAf,if_false]at hb ⊢;rw[z2a hb];have:=ih (p++ [(kn:Int)]) (kn:Int) (by simp[hp]) (by omega) (by omega);simpa using this
theorem posR_eq(q:zra)(a:zxa)(ok:QueOk q):iter (qca q a) (-1,0)=some (posI q.Entries a.Entry):=by
 have hn:=ok.n;let Inv:Nat->Int->Prop:=fun i b=>(b= -1/\∀j x,j < i->q.Entries[j]? =some x->x.Id≠a.Entry)∨∃(n:Nat) (x:zba),b=(n:Int)/\q.Entries[n]? =some x/\x.Id=a.Entry
 obtain ⟨b,hb,hinv,_⟩:=JZa q.Entries (fun i b=>(b,i)) (fun i b x=>if x.Id==a.Entry then (i:Int) else b) (fun b=>b) Inv (body:=qca q a) (fun s _=>by
  unfold qca;dsimp only;rw[zCa];rfl) (fun i x b hx hi=>by
  have hil:=zEa hx;refine ⟨?_,?_⟩
  .unfold qca;dsimp only;rw[z1a hx,zva hx];simp only[cond_true,jAb,sc i (by omega)];cases x.Id==a.Entry <;> rfl
  by_cases he:x.Id=a.Entry
  .rw[if_pos (by simpa using he)];exact .inr ⟨i,x,rfl,hx,he⟩
  rw[if_neg (by simpa using he)];rcases hi with ⟨rfl,h⟩ | h
  .refine .inl ⟨rfl,fun j y hj hy=>?_⟩;by_cases hji:j=i
   .subst hji;rw[hx]at hy;cases hy;exact he
   exact h j y (by omega) hy
  exact .inr h) (-1) (.inl ⟨rfl,fun j x hj=>by omega⟩)
 rw[hb]
 congr 1
 rcases hinv with ⟨rfl,h⟩ | ⟨n,x,rfl,hx,he⟩
 .rcases YSa q.Entries a.Entry with ⟨h1,_⟩ | ⟨m,y,h1,h2,h3⟩
  .rw[h1]
  exact absurd h3 (h m y (zEa h2) h2)
 rcases YSa q.Entries a.Entry with ⟨_,h2⟩ | ⟨m,y,h1,h2,h3⟩
 .exact absurd he (h2 x (jAd hx))
 rw[h1];have hxy:x=y:=y5b ok.ids x (jAd hx) y (jAd h2) (by rw[he,h3]);have hlt:=zEa hx;have hlt2:=zEa h2;have hpw:=List.pairwise_iff_getElem.1 ok.ids;rw[jAh hlt]at hx;rw[jAh hlt2]at h2;cases hx;cases h2;rcases Nat.lt_trichotomy n m with h | h | h
 .have:=hpw n m hlt hlt2 h;omega
 .rw[h]
 have:=hpw m n hlt2 hlt h;omega
theorem Kca(q:zra)(a:zxa)(on:Bool)(hq:wAa q)(hw:wJa q)(hl:a.To.length<=1048576):woa q a on=some (if (queF q).Code !=0 then (0,queF q) else attP q a on):=by
 unfold woa attP;rw[ZCa q hq];simp only[jAb,kba,zQa,kLa];by_cases hc:(queF q).Code=0
 .obtain ⟨ok,hF⟩:=KNa hc;have hn:=ok.n;have h1:((queF q).Code !=0)=false:=by simp[hc]
  rw[h1];simp only[cond_false,jAf,if_false];have hpos:((iter (vDa q a) 0).bind (Sum.elim (fun b8=>some ((-1))) (fun b9=>some b9)):Option Int)=some (posI q.Entries a.Entry):=by
   rw[zZa q.Entries (fun i x=>if x.Id==a.Entry then some ((i:Nat):Int) else none) (.inl ()) .inr]
   .simp only[jAb,Vna];rfl
   .unfold vDa;rw[zCa];rfl
   intro i x hx;have hi:=zEa hx;unfold vDa;rw[z1a hx,zva hx];simp only[cond_true,jAb,sc i (by omega)];cases x.Id==a.Entry <;> rfl
  rw[hpos];simp only[jAb];rcases YSa q.Entries a.Entry with ⟨h2,_⟩ | ⟨n,e,h2,h3,h4⟩
  .rw[h2];rfl
  rw[h2];have hlt:=zEa h3;rw[decide_eq_false (show ¬((n:Int) < 0) by omega),if_neg (by omega),zva h3];simp only[cond_false,jAb,jAy,h3];have e1:((bif ((a.To.length:Int)==0) then some true else some (decide ((e.To.length:Int) < (a.To.length:Int)))):Option Bool)=some (decide (a.To.length=0∨e.To.length < a.To.length)):=by
   by_cases h0:a.To.length=0
   .rw[h0];simp
   rw[show ((a.To.length:Int)==0)=false by rw[beq_eq_false_iff_ne];omega];simp only[cond_false,Option.some.injEq]
   congr 1;apply propext;omega
  rw[e1];simp only[jAb];by_cases h5:a.To.length=0∨e.To.length < a.To.length
  .rw[decide_eq_true h5,if_pos h5];rfl
  rw[decide_eq_false h5,if_neg h5];simp only[cond_false];have:=att_loop e a on (hw e (jAd h3)) hl a.To [] (-1) rfl (.inl ⟨rfl,rfl⟩);rw[show iter (kVa a on e) 0=_ from this];simp only[jCq];cases toR e a.Domain on 0 (-1) a.To <;> rfl
 have h1:((queF q).Code !=0)=true:=by simpa using hc
 rw[h1];rfl
theorem j0a(q:zra)(a:zxa)(on:Bool)(ok:QueOk q)(hw:wJa q)(hl:a.To.length<=1048576):vba q a on=some (attP q a on):=by
 unfold vba attP;rw[posR_eq q a ok];simp only[jAb,qTa,vea];rcases YSa q.Entries a.Entry with ⟨h2,_⟩ | ⟨n,e,h2,h3,h4⟩
 .rw[h2];rfl
 rw[h2];have hlt:=zEa h3;rw[decide_eq_false (show ¬((n:Int) < 0) by omega),if_neg (by omega),zva h3];simp only[cond_false,jAb,jAy,h3];have e1:(!(decide ((1:Int)<=(a.To.length:Int)) && decide ((a.To.length:Int)<=(e.To.length:Int))))=decide (a.To.length=0∨e.To.length < a.To.length):=by
  rw[jAq];simp only[jBs,Bool.and_eq_false_iff,decide_eq_false_iff_not,decide_eq_true_iff];omega
 rw[e1];by_cases h5:a.To.length=0∨e.To.length < a.To.length
 .rw[decide_eq_true h5,if_pos h5];rfl
 rw[decide_eq_false h5,if_neg h5];simp only[cond_false];have:=y6b e a on (hw e (jAd h3)) hl a.To [] (-1) rfl (by omega) (by omega);rw[show iter (kFa a on e) (-1,0)=_ from this];simp only[jCq];cases toR e a.Domain on 0 (-1) a.To <;> rfl
def wTo(e:zba)(T:List zea):zba:=⟨e.Id,e.Mail,e.Since,e.Tries,e.Due,T⟩
def onK(T:List zea)(k:Int):List zea:=match T[k.toNat]? with
 | some w=>T.set k.toNat ⟨w.Recipient,w.Result,true⟩
 | none=>T
theorem q4b(T:List zea)(k:Int):(onK T k).length=T.length:=by unfold onK;split <;> simp
theorem vJb(e:zba)(dom:Str)(on:Bool):∀(ks:List Int) (i:Nat) (last:Int) (f:zpa),toR e dom on i last ks=some f->f.Code≠0
 | [],_,_,_,h=>by cases h
 | k::ks,i,last,f,h=>by
  unfold toR at h;split at h
  .cases h;simp
  split at h
  .cases h
  split at h
  .cases h;simp
  split at h
  .cases h;simp
  exact vJb e dom on ks _ _ _ h
theorem WYa(e:zba)(dom:Str)(on:Bool):∀(ks:List Int) (i:Nat) (last:Int), -1<=last->toR e dom on i last ks=none->∀k∈ks,last < k/\k < (e.To.length:Int)/\∃w,e.To[k.toNat]? =some w/\wDom w=dom/\w.Result=0/\w.Busy=on
 | [],_,_,_,_,k,hk=>by cases hk
 | k::ks,i,last,hl,h,x,hx=>by
  unfold toR at h;split at h
  .cases h
  rename_i h1;simp at h1;have hkl:k.toNat < e.To.length:=by omega
  rw[jAh hkl]at h;generalize hw:e.To[k.toNat]=w at h;dsimp only at h;split at h
  .cases h
  rename_i h2;split at h
  .cases h
  rename_i h3;simp at h2 h3;rcases jCf.1 hx with rfl | hx
  .exact ⟨by omega,by omega,w,by rw[jAh hkl,hw],h2,h3.1,h3.2⟩
  obtain ⟨a,b,c⟩:=WYa e dom on ks _ k (by omega) h x hx;exact ⟨by omega,b,c⟩
theorem Wja{q:zra}{a:zxa}{on:Bool}(h:(attP q a on).2.Code=0):∃(n:Nat) (e:zba),attP q a on=((n:Int),⟨0,0⟩)/\q.Entries[n]? =some e/\e.Id=a.Entry/\toR e a.Domain on 0 (-1) a.To=none/\1<=a.To.length/\a.To.length<=e.To.length:=by
 unfold attP at h ⊢;rcases YSa q.Entries a.Entry with ⟨h2,_⟩ | ⟨n,e,h2,h3,h4⟩
 .rw[h2]at h;simp at h
 rw[h2]at h ⊢;rw[if_neg (by omega)]at h ⊢;simp only[jAy,h3]at h ⊢;by_cases h5:a.To.length=0∨e.To.length < a.To.length
 .rw[if_pos h5]at h;simp at h
 rw[if_neg h5]at h ⊢;cases ht:toR e a.Domain on 0 (-1) a.To with
 | some f=>rw[ht]at h;exact absurd h (vJb _ _ _ _ _ _ _ ht)
 | none=>exact ⟨n,e,rfl,h3,h4,ht,by omega,by omega⟩
def YTa(L:List zba)(n:Nat)(ks:List Int):List zba:=match L[n]? with
 | some e=>L.set n (wTo e (ks.foldl onK e.To))
 | none=>L
def yTa(q:zra)(a:zxa):zra × zpa:=
 if (queF q).Code !=0 then (⟨[],0⟩,queF q) else if (attP q a false).2.Code !=0 then (⟨[],0⟩,(attP q a false).2) else
 if decide (2<=ySa q.Entries a.Domain) || uwP ((q.Entries[(attP q a false).1.toNat]?).getD ⟨0,⟨⟨[],[],[]⟩,⟨[],[]⟩⟩,0,0,0,[]⟩) a.Domain then (⟨[],0⟩,⟨8, -5⟩) else (⟨YTa q.Entries (attP q a false).1.toNat a.To,q.Next⟩,⟨0,0⟩)
theorem Z2a{L:List zba}{n:Nat}(hn:n < L.length)(x:zba):idx (L.set n x) (n:Int)=some x:=zva (by simp[hn])
theorem zcb{a:zxa}{f:zpa}{L:List zba}{n:Nat}{e:zba}(he:L[n]? =some e)(hl:a.To.length<=1048576)(hk:∀k∈a.To,0<=k/\k < (e.To.length:Int))
 {body:Int × List zba->Option (Step (Int × List zba) (List zba))} (hb:body=w4a a ((n:Int),f) (L,L.length)∨body=jAa a ((n:Int),f) (L,L.length)):
 iter body (0,L)=some (L.set n (wTo e (a.To.foldl onK e.To))):=by
 have hn:=zEa he;have key:∀(r p:List Int) (T:List zea),a.To=p++r->T.length=e.To.length->iter body ((p.length:Int),L.set n (wTo e T))=some (L.set n (wTo e (r.foldl onK T))):=by
  intro r;induction r with
  | nil=>
   intro p T hp hT;have hp' :a.To=p:=by simpa using hp
   refine zDa ?_;rcases hb with rfl | rfl
   .unfold w4a;dsimp only;rw[<-hp',zCa];rfl
   unfold jAa;dsimp only;rw[<-hp',zCa];rfl
  | cons k r ih=>
   intro p T hp hT;have hx:a.To[p.length]? =some k:=by rw[hp];simp
   have hlt:=zEa hx;obtain ⟨k0,k1⟩:=hk k (jAd hx);obtain ⟨kn,rfl⟩:∃kn:Nat,k=(kn:Int):=⟨k.toNat,by omega⟩;have hkT:T[kn]? =some (T[kn]'(by omega)):=jAh (by omega);generalize T[kn]'(by omega)=w at hkT;have hon:onK T (kn:Int)=T.set kn ⟨w.Recipient,w.Result,true⟩:=by unfold onK;simp only[jAy,hkT]
   have hnown:nown L.length (n:Int)=some true:=by unfold nown;rw[if_pos (by simpa using hn)]
   have hw:idx (wTo e T).To (kn:Int)=some w:=zva hkT;have hc:body ((p.length:Int),L.set n (wTo e T))=some (.cont (((p.length+1:Nat):Int),L.set n (wTo e (onK T (kn:Int))))):=by
    rcases hb with rfl | rfl
    .unfold w4a;dsimp only;rw[z1a hx,zva hx];simp only[cond_true,jAb,Z2a hn,hnown,hw,sc _ (show p.length < 9223372036854775807 by omega),jAy,jDo,hon];rfl
    unfold jAa;dsimp only;rw[z1a hx,zva hx];simp only[cond_true,jAb,Z2a hn,hnown,hw,sc _ (show p.length < 9223372036854775807 by omega),jAy,jDo,hon];rfl
   rw[z2a hc];have:=ih (p++ [(kn:Int)]) (onK T (kn:Int)) (by simp[hp]) (by rw[q4b,hT]);simpa using this
 have h0:L.set n (wTo e e.To)=L:=WXa he;have:=key a.To [] e.To rfl rfl;rw[h0]at this;exact this
theorem Qda{q:zra}(hq:wAa q)(ok:QueOk q):q1b q.Entries:=⟨hq.1,hq.2⟩
theorem z2b(q:zra)(a:zxa)(hq:wAa q)(hw:wJa q)(hl:a.To.length<=1048576):Zta q a=some (yTa q a):=by
 unfold Zta yTa;rw[Kca q a false hq hw hl];simp only[jAb,kba,zQa,kLa];by_cases hc:(queF q).Code=0
 .obtain ⟨ok,hF⟩:=KNa hc;have h1:((queF q).Code !=0)=false:=by simp[hc]
  have hn:=ok.n;rw[h1];simp only[jAf,if_false];by_cases hca:(attP q a false).2.Code=0
  .obtain ⟨n,e,ha,he,hid,ht,t1,t2⟩:=Wja hca;have hne:=zEa he;rw[ha];simp only[bne_self_eq_false,cond_false,jAf,if_false,jAy,he,jBk];obtain ⟨u,m,hbz,hu,hm⟩:=busy_eq q hn hw ok.ids;rw[show iter (ZSa q) (0,([]:List ((Int × Str) × Bool)),([]:List (Str × Int)))=some (u,m) from hbz];simp only[jAb,hm,hu];have e1:(q.Entries.any fun x=>a.Entry==x.Id && uwP x a.Domain)=uwP e a.Domain:=by
    rw[jAq,List.any_eq_true];constructor
    .rintro ⟨x,hx,hxe⟩;simp at hxe;have:x=e:=y5b ok.ids x hx e (jAd he) (by rw[hid];exact hxe.1.symm);rw[<-this];exact hxe.2
    intro h;exact ⟨e,jAd he,by simp[h,hid]⟩
   rw[e1];have e2:decide ((2:Int)<=(ySa q.Entries a.Domain:Int))=decide (2<=ySa q.Entries a.Domain):=by congr 1;apply propext;omega
   rw[e2];have e3:((bif decide (2<=ySa q.Entries a.Domain) then some true else some (uwP e a.Domain)):Option Bool)=some (decide (2<=ySa q.Entries a.Domain) || uwP e a.Domain):=by cases decide (2<=ySa q.Entries a.Domain) <;> rfl
   rw[e3];simp only[jAb];cases decide (2<=ySa q.Entries a.Domain) || uwP e a.Domain with
   | true=>rfl
   | false=>
    simp only[cond_false,jAf,if_false];rw[wda _ (by omega)];simp only[jAb];rw[show iter (ZTa q.Entries) (0,0,q.Entries)=some (q.Entries,q.Entries.length) from YPa q.Entries (Qda hq ok)];simp only[jAb];rw[zcb he hl (fun k hk=>by have:=WYa _ _ _ _ _ _ (by omega) ht k hk;omega) (.inl rfl)];unfold YTa;rw[he];rfl
  have h2:((attP q a false).2.Code !=0)=true:=by simpa using hca
  rw[h2];rfl
 have h1:((queF q).Code !=0)=true:=by simpa using hc
 rw[h1];simp only[if_true,h1,cond_true]
theorem q5b(q:zra)(a:zxa)(hq:wAa q)(hw:wJa q)(hl:a.To.length<=1048576):Vka q a=some (yTa q a):=by
 unfold Vka yTa;rw[y0a q hq];simp only[jAb,qTa];by_cases hc:(queF q).Code=0
 .obtain ⟨ok,hF⟩:=KNa hc;have h1:((queF q).Code !=0)=false:=by simp[hc]
  have hn:=ok.n;rw[h1];simp only[cond_false,jAf,if_false];rw[j0a q a false ok hw hl];simp only[jAb];by_cases hca:(attP q a false).2.Code=0
  .obtain ⟨n,e,ha,he,hid,ht,t1,t2⟩:=Wja hca;have hne:=zEa he;rw[ha];simp only[bne_self_eq_false,beq_self_eq_true,cond_true,jAf,if_false,jAy,he,jBk];rw[Jsa q _ (by omega) hw];simp only[jAb,zva he,QAa e _ (hw e (jAd he))];have e2:decide ((2:Int)<=(ySa q.Entries a.Domain:Int))=decide (2<=ySa q.Entries a.Domain):=by congr 1;apply propext;omega
   rw[e2];have e3:((bif decide (2<=ySa q.Entries a.Domain) then some true else some (uwP e a.Domain)):Option Bool)=some (decide (2<=ySa q.Entries a.Domain) || uwP e a.Domain):=by cases decide (2<=ySa q.Entries a.Domain) <;> rfl
   rw[e3];simp only[jAb];cases decide (2<=ySa q.Entries a.Domain) || uwP e a.Domain with
   | true=>rfl
   | false=>
    simp only[cond_false,jAb,bne_self_eq_false,jAf,if_false];rw[show iter (QMa q) (0,0,([]:List zba))=some (q.Entries,q.Entries.length) from Wha q (Qda hq ok)];simp only[jAb];rw[zcb he hl (fun k hk=>by have:=WYa _ _ _ _ _ _ (by omega) ht k hk;omega) (.inr rfl)];unfold YTa;rw[he];rfl
  have h2:((attP q a false).2.Code !=0)=true:=by simpa using hca
  have h3:((attP q a false).2.Code==0)=false:=by simpa using hca
  rw[h2,h3];simp only[cond_false,jAb,h2,cond_true,if_true]
 have h1:((queF q).Code !=0)=true:=by simpa using hc
 rw[h1];rfl
def QPa(t:Int):Int:=if 8 < t then 14400 else 60 * 2 ^ (t - 1).toNat
theorem zSa(t w i w' i' :Int)(h1:decide (i < t)=true)(h2:decide (w < 14400)=true)(h3:min (w64 (2 * w)) 14400=w')(h4:w64 (i+1)=i'):iter (qKa t) (w,i)=iter (qKa t) (w',i'):=by
 refine z2a ?_;unfold qKa;dsimp only;rw[h1,h2,h3,h4];rfl
theorem yfa(t w i:Int)(h:(decide (i < t) && decide (w < 14400))=false):iter (qKa t) (w,i)=some w:=by
 refine zDa ?_;unfold qKa;dsimp only;cases h1:decide (i < t) with
 | false=>rfl
 | true=>rw[h1]at h;simp only[jDh]at h;rw[h];rfl
theorem wait_eq(t:Int)(h:1<=t):iter (qKa t) (60,1)=some (QPa t):=by
 by_cases h8:8 < t
 .unfold QPa;rw[if_pos h8];rw[zSa t 60 1 120 2 (decide_eq_true (by omega)) rfl rfl rfl,zSa t 120 2 240 3 (decide_eq_true (by omega)) rfl rfl rfl,zSa t 240 3 480 4 (decide_eq_true (by omega)) rfl rfl rfl,zSa t 480 4 960 5 (decide_eq_true (by omega)) rfl rfl rfl,zSa t 960 5 1920 6 (decide_eq_true (by omega)) rfl rfl rfl,zSa t 1920 6 3840 7 (decide_eq_true (by omega)) rfl rfl rfl,zSa t 3840 7 7680 8 (decide_eq_true (by omega)) rfl rfl rfl,zSa t 7680 8 14400 9 (decide_eq_true (by omega)) rfl rfl rfl];exact yfa t 14400 9 (by simp)
 have:t=1∨t=2∨t=3∨t=4∨t=5∨t=6∨t=7∨t=8:=by omega
 rcases this with rfl | rfl | rfl | rfl | rfl | rfl | rfl | rfl
 .exact yfa 1 60 1 rfl
 .rw[zSa 2 60 1 120 2 rfl rfl rfl rfl];exact yfa 2 120 2 rfl
 .rw[zSa 3 60 1 120 2 rfl rfl rfl rfl,zSa 3 120 2 240 3 rfl rfl rfl rfl];exact yfa 3 240 3 rfl
 .rw[zSa 4 60 1 120 2 rfl rfl rfl rfl,zSa 4 120 2 240 3 rfl rfl rfl rfl,zSa 4 240 3 480 4 rfl rfl rfl rfl];exact yfa 4 480 4 rfl
 .rw[zSa 5 60 1 120 2 rfl rfl rfl rfl,zSa 5 120 2 240 3 rfl rfl rfl rfl,zSa 5 240 3 480 4 rfl rfl rfl rfl,zSa 5 480 4 960 5 rfl rfl rfl rfl];exact yfa 5 960 5 rfl
 .rw[zSa 6 60 1 120 2 rfl rfl rfl rfl,zSa 6 120 2 240 3 rfl rfl rfl rfl,zSa 6 240 3 480 4 rfl rfl rfl rfl,zSa 6 480 4 960 5 rfl rfl rfl rfl,zSa 6 960 5 1920 6 rfl rfl rfl rfl];exact yfa 6 1920 6 rfl
 .rw[zSa 7 60 1 120 2 rfl rfl rfl rfl,zSa 7 120 2 240 3 rfl rfl rfl rfl,zSa 7 240 3 480 4 rfl rfl rfl rfl,zSa 7 480 4 960 5 rfl rfl rfl rfl,zSa 7 960 5 1920 6 rfl rfl rfl rfl,zSa 7 1920 6 3840 7 rfl rfl rfl rfl];exact yfa 7 3840 7 rfl
 rw[zSa 8 60 1 120 2 rfl rfl rfl rfl,zSa 8 120 2 240 3 rfl rfl rfl rfl,zSa 8 240 3 480 4 rfl rfl rfl rfl,zSa 8 480 4 960 5 rfl rfl rfl rfl,zSa 8 960 5 1920 6 rfl rfl rfl rfl,zSa 8 1920 6 3840 7 rfl rfl rfl rfl,zSa 8 3840 7 7680 8 rfl rfl rfl rfl];exact yfa 8 7680 8 rfl
theorem y7b(t:Int)(h:1<=t):kTb t=some (QPa t):=by
 unfold kTb QPa;by_cases h8:8 < t
 .rw[decide_eq_true h8,if_pos h8];rfl
 have:t=1∨t=2∨t=3∨t=4∨t=5∨t=6∨t=7∨t=8:=by omega
 rcases this with rfl | rfl | rfl | rfl | rfl | rfl | rfl | rfl <;> rfl
theorem WBa(t:Int)(h:1<=t):0<=QPa t/\QPa t<=14400:=by
 unfold QPa;by_cases h8:8 < t
 .rw[if_pos h8];omega
 have:t=1∨t=2∨t=3∨t=4∨t=5∨t=6∨t=7∨t=8:=by omega
 rcases this with rfl | rfl | rfl | rfl | rfl | rfl | rfl | rfl <;> decide
def wra(since tries now:Int):Int × Bool:=if since+345600<=now then (0,false) else (min (min (now+QPa tries) (since+345600)) 68719476736,true)
theorem j1a{t:Int}(h:yia t=true): -68719476736<=t/\t<=68719476736:=by
 unfold yia at h;simpa using h
theorem k8b(a b:Int)(ha:yia a=true)(hb:yia b=true):jwa [a,b]=some true:=by
 unfold jwa;have t0:∀v,yia v=true->q3a v=some true:=fun v hv=>by rw[yea];exact congrArg some hv
 have h1:qPa [a,b] 0=some (.cont 1):=by
  unfold qPa;rw[show idx [a,b] 0=some a from rfl];simp only[jAb,t0 a ha];rfl
 have h2:qPa [a,b] 1=some (.cont 2):=by
  unfold qPa;rw[show idx [a,b] 1=some b from rfl];simp only[jAb,t0 b hb];rfl
 rw[z2a h1,z2a h2,zDa (r:=.inl ()) rfl];rfl
theorem z3b(a t n:Int)(ha:yia a=true)(hn:yia n=true)(ht:1<=t/\t<=1000000)(hle:a<=n):Zua a t n=some ((wra a t n).1,(wra a t n).2,⟨0,0⟩):=by
 unfold Zua wra;obtain ⟨a1,a2⟩:=j1a ha;obtain ⟨n1,n2⟩:=j1a hn;obtain ⟨w1,w2⟩:=WBa t ht.1;rw[k8b a n ha hn,wait_eq t ht.1];simp only[jAb,kLa,jBg,cond_false];rw[decide_eq_false (show ¬t < 1 by omega),decide_eq_false (show ¬(1000000:Int) < t by omega),decide_eq_false (show ¬n < a by omega),k6a (n:=a+345600) (by omega) (by omega),k6a (n:=n+QPa t) (by omega) (by omega)];simp only[cond_false,jAb];by_cases h:a+345600<=n
 .rw[decide_eq_true h,if_pos h];rfl
 rw[decide_eq_false h,if_neg h];rfl
theorem wzb(a t n:Int)(ha:yia a=true)(hn:yia n=true)(ht:1<=t/\t<=1000000)(hle:a<=n):YEa a t n=some ((wra a t n).1,(wra a t n).2,⟨0,0⟩):=by
 unfold YEa wra;obtain ⟨a1,a2⟩:=j1a ha;obtain ⟨n1,n2⟩:=j1a hn;obtain ⟨w1,w2⟩:=WBa t ht.1;rw[y7b t ht.1];simp only[vea,jAb];rw[decide_eq_true a1,decide_eq_true a2,decide_eq_true n1,decide_eq_true n2,decide_eq_true ht.1,decide_eq_true ht.2,decide_eq_false (show ¬n < a by omega),k6a (n:=n - a) (by omega) (by omega),k6a (n:=a+345600) (by omega) (by omega),k6a (n:=n+QPa t) (by omega) (by omega)];simp only[Bool.and_self,jBg,cond_false,jAb];by_cases h:a+345600<=n
 .rw[decide_eq_true (show 345600<=n - a by omega),if_pos h];rfl
 rw[decide_eq_false (show ¬345600<=n - a by omega),if_neg h];simp only[cond_false];have e1:((bif decide (a+345600 < n+QPa t) then some (a+345600) else some (n+QPa t)):Option Int)=some (min (n+QPa t) (a+345600)):=by
  by_cases h1:a+345600 < n+QPa t
  .rw[decide_eq_true h1,Int.min_eq_right (by omega)];rfl
  rw[decide_eq_false h1,Int.min_eq_left (by omega)];rfl
 rw[e1];simp only[jAb];generalize min (n+QPa t) (a+345600)=x;have e2:((bif decide (68719476736 < x) then some 68719476736 else some x):Option Int)=some (min x 68719476736):=by
  by_cases h1:68719476736 < x
  .rw[decide_eq_true h1,Int.min_eq_right (by omega)];rfl
  rw[decide_eq_false h1,Int.min_eq_left (by omega)];rfl
 rw[e2];rfl
def badR(v:Int):Bool:=decide (v < 1) || decide (4 < v)
def latR(v:Int):Bool:=v==2 || v==4
def finV(again:Bool)(v:Int):Int:=if latR v then (if again then 0 else 3) else v
def resK(again:Bool)(T:List zea)(kv:Int × Int):List zea:=match T[kv.1.toNat]? with
 | some w=>T.set kv.1.toNat ⟨w.Recipient,finV again kv.2,false⟩
 | none=>T
def resS(again:Bool)(id:Int)(s:List zfa × List zea)(kv:Int × Int):List zfa × List zea:=(if finV again kv.2 !=0 then s.1++ [⟨id,kv.1,finV again kv.2⟩] else s.1,resK again s.2 kv)
theorem WZa(again:Bool)(T:List zea)(kv:Int × Int):(resK again T kv).length=T.length:=by unfold resK;split <;> simp
theorem latB(v:Int):((bif (v==2) then some true else some ((v==4))):Option Bool)=some (latR v):=by unfold latR;cases v==2 <;> rfl
theorem badB(v:Int):((bif decide (v < 1) then some true else some (decide (4 < v))):Option Bool)=some (badR v):=by unfold badR;cases decide (v < 1) <;> rfl
theorem k9b{α:Type}(P:α->Bool)(l:List α):decide (0<=(kda (fun i x=>if P x then some ((i:Nat):Int) else none) 0 l).getD (-1))=l.any P:=by
 cases hf:kda (fun i x=>if P x then some ((i:Nat):Int) else none) 0 l with
 | none=>
  rw[vta]at hf;have:l.any P=false:=by
   rw[jCi];intro x hx hP;obtain ⟨i,hi⟩:=List.mem_iff_getElem?.1 hx;have:=hf i x hi;simp[hP]at this
  rw[this];rfl
 | some z=>
  obtain ⟨i,x,h1,h2⟩:=ZZa hf;cases hP:P x with
  | false=>simp[hP]at h2
  | true=>
   simp[hP]at h2;have:l.any P=true:=List.any_eq_true.2 ⟨x,jAd h1,hP⟩;rw[this];exact decide_eq_true (by simp;omega)
theorem Vza{a:zxa}{rs:List Int}{f:zpa}{L:List zba}{n m:Nat}{e e1:zba}{again:Bool}{j3:Int × Int × Int}{j60:Bool × List zba}{j63:Int × List zba}{b:List zba × Nat}
 (hn:n < L.length) (hm:n < b.2) (hl:a.To.length<=1048576) (hrl:rs.length=a.To.length) (hbad:∀v∈rs,badR v=false) (hid:e1.Id=a.Entry) (h3:j3.1=(n:Int)) (h60:rs.any latR=true->j60.1=again) (h63:rs.any latR=true->j63.1=if again then 0 else 3)
 {body:Int × List zfa × List zba->Option (Step (Int × List zfa × List zba) (List zfa × List zba))} (hb:body=vma a rs ((n:Int),f) b j60∨body=qRa a rs j3 b j63):
 ∀(r p rr pp:List Int) (last:Int) (out:List zfa) (T:List zea),a.To=p++r->rs=pp++rr->p.length=pp.length-> -1<=last->toR e a.Domain true p.length last r=none->T.length=e.To.length->(∀j:Nat,last < (j:Int)->T[j]? =e.To[j]?)->out.length<=p.length->
  iter body ((p.length:Int),out,L.set n (wTo e1 T))=some (((r.zip rr).foldl (resS again a.Entry) (out,T)).1,L.set n (wTo e1 ((r.zip rr).foldl (resS again a.Entry) (out,T)).2)):=by
 have hnown:nown b.2 (n:Int)=some true:=by unfold nown;rw[if_pos (by simpa using hm)]
 intro r;induction r with
 | nil=>
  intro p rr pp last out T hp hpp hpl hla ht hT hj ho;have hp' :a.To=p:=by simpa using hp
  refine zDa ?_;rcases hb with rfl | rfl
  .unfold vma;dsimp only;rw[<-hp',zCa];rfl
  unfold qRa;dsimp only;rw[<-hp',zCa];rfl
 | cons k r ih=>
  intro p rr pp last out T hp hpp hpl hla ht hT hj ho;have hx:a.To[p.length]? =some k:=by rw[hp];simp
  have hlt:=zEa hx;obtain ⟨v,rr',rfl⟩:∃v rr',rr=v::rr' :=by
   cases rr with
   | nil=>exfalso;rw[hp,hpp]at hrl;simp at hrl;omega
   | cons v rr' =>exact ⟨v,rr',rfl⟩
  have hv:rs[p.length]? =some v:=by rw[hpp,hpl];simp
  have hvb:=hbad v (jAd hv);have ht0:=ht;obtain ⟨k0,k1,w,w1,w2,w3,w4⟩:=WYa _ _ _ _ _ _ hla ht k (by simp);obtain ⟨kn,rfl⟩:∃kn:Nat,k=(kn:Int):=⟨k.toNat,by omega⟩;simp only[jAy]at w1;have hkT:T[kn]? =some w:=by rw[hj kn k0,w1]
  have hkl:=zEa hkT;have htr:toR e a.Domain true (p.length+1) (kn:Int) r=none:=by
   unfold toR at ht;split at ht
   .cases ht
   simp only[jAy,w1]at ht;split at ht
   .cases ht
   split at ht
   .cases ht
   exact ht
  have hres:resK again T ((kn:Int),v)=T.set kn ⟨w.Recipient,finV again v,false⟩:=by unfold resK;simp only[jAy,hkT]
  have hvl:latR v=true->rs.any latR=true:=fun h=>List.any_eq_true.2 ⟨v,jAd hv,h⟩
  have hw:idx T (kn:Int)=some w:=zva hkT;have happ:app 5864062014805 out ([⟨a.Entry,(kn:Int),finV again v⟩]:List zfa)=some (out++ [⟨a.Entry,(kn:Int),finV again v⟩]):=qma (by simp;omega);have hw2:∀x:zea,idx (T.set kn x) (kn:Int)=some x:=fun x=>zva (by simp[hkl])
  have hmk:∀T' :List zea,zba.mk (wTo e1 T).Id (wTo e1 T).Mail (wTo e1 T).Since (wTo e1 T).Tries (wTo e1 T).Due T' =wTo e1 T' :=fun _=>rfl
  have hmk2:∀T'' T' :List zea,zba.mk (wTo e1 T'').Id (wTo e1 T'').Mail (wTo e1 T'').Since (wTo e1 T'').Tries (wTo e1 T'').Due T' =wTo e1 T' :=fun _ _=>rfl
  have hto:∀T' :List zea,(wTo e1 T').To=T' :=fun _=>rfl
  have hids:∀T' :List zea,(wTo e1 T').Id=a.Entry:=fun _=>hid
  have hfin0:latR v=true->again=true->finV again v=0:=fun h1 h2=>by unfold finV;rw[if_pos h1,if_pos h2]
  have hc:body ((p.length:Int),out,L.set n (wTo e1 T))=some (.cont (((p.length+1:Nat):Int),(resS again a.Entry (out,T) ((kn:Int),v)).1,L.set n (wTo e1 (resS again a.Entry (out,T) ((kn:Int),v)).2))):=by
   show body ((p.length:Int),out,L.set n (wTo e1 T))=some (Step.cont (((p.length+1:Nat):Int),(if finV again v !=0 then out++ [⟨a.Entry,(kn:Int),finV again v⟩] else out),L.set n (wTo e1 (resK again T ((kn:Int),v)))));rw[hres];rcases hb with rfl | rfl
   .unfold vma;dsimp only;rw[z1a hx,zva hx,zva hv];simp only[cond_true,jAb,hnown,Z2a hn,hw,jAy,latB,hmk2,hto,jDo,hw2,sc _ (show p.length < 9223372036854775807 by omega)];cases hlv:latR v with
    | true=>
     rw[h60 (hvl hlv)];cases ha:again with
     | true=>
      have:finV true v=0:=by rw[<-ha];exact hfin0 hlv ha
      rw[this];simp only[cond_true,jAb];have hww:(⟨w.Recipient,w.Result,false⟩:zea)=⟨w.Recipient,0,false⟩:=by rw[w3]
      rw[hww];rfl
     | false=>
      have hf:finV false v=3:=by unfold finV;rw[if_pos hlv];rfl
      rw[ha,hf]at happ;rw[hf];simp only[cond_true,cond_false,jAb,Z2a hn,hto,hw2,hids,jDo,hmk2,happ];rfl
    | false=>
     have hf:finV again v=v:=by unfold finV;rw[hlv];rfl
     rw[hf]at happ;have hv0:(v !=0)=true:=by
      unfold badR at hvb;simp at hvb ⊢;omega
     rw[hf,hv0];simp only[cond_false,jAb,Z2a hn,hto,hw2,hids,jDo,hmk2,happ,if_true]
   unfold qRa;dsimp only;rw[z1a hx,zva hx,zva hv,h3];have hj95:((bif latR v then some j63.1 else some v):Option Int)=some (finV again v):=by
    unfold finV;cases hlv:latR v with
    | true=>rw[h63 (hvl hlv)];rfl
    | false=>rfl
   simp only[cond_true,jAb,hnown,Z2a hn,hw,jAy,latB,hmk2,hto,jDo,hw2,hj95,sc _ (show p.length < 9223372036854775807 by omega)];simp only[happ,hw2,jAb];cases finV again v !=0 <;> rfl
  rw[z2a hc];have:=ih (p++ [(kn:Int)]) rr' (pp++ [v]) (kn:Int) (resS again a.Entry (out,T) ((kn:Int),v)).1 (resS again a.Entry (out,T) ((kn:Int),v)).2 (by simp[hp]) (by simp[hpp]) (by simp[hpl]) (by omega) (by simpa using htr) (by
   show (resK again T ((kn:Int),v)).length=_;rw[WZa,hT]) (fun j hjj=>by
   show (resK again T ((kn:Int),v))[j]? =_;rw[hres,jBq (by omega)];exact hj j (by omega)) (by
   show (if finV again v !=0 then out++ [⟨a.Entry,(kn:Int),finV again v⟩] else out).length<=_;split <;> simp <;> omega)
  simpa using this
def noMl(m:kia):Bool:=m.Envelope.From==[] && m.Envelope.Id==[] && decide (m.Envelope.To.length=0) && decide (m.Message.Fields.length=0) && decide (m.Message.Body.length=0)
def VAa(r:zha):Bool:=r.Attempt.Entry==0 && r.Attempt.Domain==[] && decide (r.Attempt.To.length=0) && decide (r.Results.length=0)
def attL:Int->List Int->Bool
 | _,[]=>true
 | last,k::r=>decide (last < k) && decide (k<=59) && attL k r
def wAb(r:zha):zpa:=
 if decide (r.Attempt.Entry < 0) || decide (1000000 < r.Attempt.Entry) then ⟨3, -3⟩ else if !domP r.Attempt.Domain then ⟨10, -4⟩ else if decide (r.Attempt.To.length < 1) || decide (60 < r.Attempt.To.length) then ⟨2, -4⟩ else
 if !attL (-1) r.Attempt.To then ⟨3, -4⟩ else if r.Results.length≠r.Attempt.To.length then ⟨9, -5⟩ else if r.Results.any badR then ⟨3, -5⟩ else ⟨0,0⟩
def rcdF(r:zha):zpa:=if r.Kind !=1 && r.Kind !=2 then ⟨4, -2⟩ else if !yia r.Now then ⟨3, -7⟩ else if (if r.Kind==2 then !noMl r.Mail else !VAa r) then ⟨5, -8⟩ else
 if r.Kind==2 then wAb r else if (yda r.Mail).Code !=0 then ⟨(yda r.Mail).Code, -6⟩ else ⟨0,0⟩
theorem z2(a b:Nat)(h:a+b<=9223372036854775807):((w64 ((a:Int)+(b:Int)))==0)=(decide (a=0) && decide (b=0)):=by
 rw[vwb a b h,jAq];simp only[beq_iff_eq,jAs,decide_eq_true_eq];omega
theorem YUa(m:kia)(h:vOa m):yPa m=some (noMl m):=by
 obtain ⟨t1,_⟩:=KOa h;obtain ⟨f1,_⟩:=Vya h;have h5:=h.2.2;unfold yPa noMl;rw[vwb _ _ (by omega),z2 _ _ (by omega)];have e:decide (m.Envelope.To.length+m.Message.Fields.length=0)=(decide (m.Envelope.To.length=0) && decide (m.Message.Fields.length=0)):=by
  rw[jAq];simp only[jAs,decide_eq_true_eq];omega
 rw[e];cases m.Envelope.From==[] <;> cases m.Envelope.Id==[] <;> rfl
theorem YVa(r:zha)(h:kva r):yQa r=some (if r.Kind==2 then noMl r.Mail else VAa r):=by
 unfold yQa;cases r.Kind==2 with
 | true=>simp only[cond_true,if_true];rw[YUa _ h.mail];rfl
 | false=>
  simp only[cond_false,jAf,if_false];have:=h.to;have:=h.res;rw[z2 _ _ (by omega)];unfold VAa;cases r.Attempt.Entry==0 <;> cases r.Attempt.Domain==[] <;> rfl
theorem done_l1(r:zha)(hl:r.Attempt.To.length<=1048576):iter (voa r) 0=some (if attL (-1) r.Attempt.To then .inl () else .inr ⟨3, -4⟩):=by
 have key:∀(ks p:List Int) (last:Int),r.Attempt.To=p++ks->(p=[]/\last= -1∨0<=last/\∃p',p=p' ++ [last])->
  iter (voa r) (p.length:Int)=some (if attL last ks then .inl () else .inr ⟨3, -4⟩):=by
  intro ks;induction ks with
  | nil=>
   intro p last hp hc;have hp' :r.Attempt.To=p:=by simpa using hp
   refine zDa ?_;unfold voa;rw[<-hp',zCa];rfl
  | cons k ks ih=>
   intro p last hp hc;have hx:r.Attempt.To[p.length]? =some k:=by rw[hp];simp
   have hlt:=zEa hx;have hcond:((bif decide (k < 0) then some true else (bif decide (60<=k) then some true else (bif decide (0 < (p.length:Int)) then (idx r.Attempt.To ((w64 ((p.length:Int) - 1)))).bind fun v28=>some (decide (k<=v28)) else some false))):Option Bool)=some (!(decide (last < k) && decide (k<=59))):=by
    rcases hc with ⟨rfl,rfl⟩ | ⟨hl0,p',rfl⟩
    .have e1:decide (k < 0)= !decide (-1 < k):=by rw[jAq];simp;omega
     have e2:decide (60<=k)= !decide (k<=59):=by rw[jAq];simp;omega
     rw[e1,e2];simp only[jCq];cases decide (-1 < k) <;> cases decide (k<=59) <;> rfl
    have h1:decide (0 < (((p' ++ [last]).length:Nat):Int))=true:=decide_eq_true (by rw[jAl,jCt];omega);have h2:idx r.Attempt.To ((w64 (((p' ++ [last]).length:Int) - 1)))=some last:=by
     rw[show (((p' ++ [last]).length:Int) - 1)=(p'.length:Int) by simp,Jna _ (by simp at hlt;omega)];rw[V9a,hp];simp
    rw[h1,h2];simp only[cond_true,jAb];have e2:decide (60<=k)= !decide (k<=59):=by rw[jAq];simp;omega
    have e3:decide (k<=last)= !decide (last < k):=by rw[jAq];simp
    rw[e2,e3];by_cases hk:k < 0
    .rw[decide_eq_true hk,decide_eq_false (show ¬last < k by omega)];rfl
    rw[decide_eq_false hk];cases decide (last < k) <;> cases decide (k<=59) <;> rfl
   have hb:voa r (p.length:Int)=some (if !(decide (last < k) && decide (k<=59)) then .out (.inr ⟨3, -4⟩) else .cont ((p.length+1:Nat):Int)):=by
    unfold voa;rw[z1a hx,zva hx];simp only[cond_true,jAb];rw[hcond];simp only[jAb,zQa,sc _ (show p.length < 9223372036854775807 by omega)];cases decide (last < k) && decide (k<=59) <;> rfl
   unfold attL;cases hq:decide (last < k) && decide (k<=59) with
   | false=>rw[hq]at hb;rw[zDa hb];rfl
   | true=>
    rw[hq]at hb;simp only[jBg,jAf,if_false,jDh]at hb ⊢;rw[z2a hb];simp at hq;have hlast: -1<=last:=by rcases hc with ⟨_,rfl⟩ | ⟨h,_⟩ <;> omega
    have:=ih (p++ [k]) k (by simp[hp]) (.inr ⟨by omega,p,rfl⟩);simpa using this
 exact key r.Attempt.To [] (-1) rfl (.inl ⟨rfl,rfl⟩)
theorem done_l1R(r:zha)(hl:r.Attempt.To.length<=1048576):iter (qra r) (-1,0)=some (if attL (-1) r.Attempt.To then .inl () else .inr ⟨3, -4⟩):=by
 refine wSa r.Attempt.To (fun n (s:Int)=>(s,(n:Int))) (fun n ks s=>(if attL s ks then .inl () else .inr ⟨3, -4⟩:Unit ⊕ zpa)) (fun n ks s=> -1<=s/\s<=59) (fun s _=>?_) (fun p k ks s hp hi=>?_) (-1) rfl (by omega)
 .unfold qra;dsimp only;rw[zCa];rfl
 have hx:r.Attempt.To[p.length]? =some k:=by rw[hp];simp
 have hlt:=zEa hx;have hb:qra r (s,(p.length:Int))=some (if !(decide (s < k) && decide (k<=59)) then .out (.inr ⟨3, -4⟩) else .cont (k,((p.length+1:Nat):Int))):=by
  unfold qra;dsimp only;rw[z1a hx,zva hx];simp only[cond_true,jAb,vea,qTa,sc _ (show p.length < 9223372036854775807 by omega)];rw[k6a (n:=s+1) (by omega) (by omega)];have e1:decide (s+1<=k)=decide (s < k):=by rw[jAq];simp;omega
  rw[e1];cases decide (s < k) && decide (k<=59) <;> rfl
 by_cases hq:s < k/\k<=59
 .have e:attL s (k::ks)=attL k ks:=by simp[attL,hq.1,hq.2]
  have e2:(decide (s < k) && decide (k<=59))=true:=by simp[hq.1,hq.2]
  rw[hb,e2];exact .inr ⟨k,rfl,by rw[e],by omega⟩
 have hq' :(decide (s < k) && decide (k<=59))=false:=by
  rw[Bool.and_eq_false_iff,decide_eq_false_iff_not,decide_eq_false_iff_not];omega
 have e:attL s (k::ks)=false:=by
  show (decide (s < k) && decide (k<=59) && attL k ks)=false;rw[hq'];rfl
 rw[hb,hq',e];exact .inl rfl
theorem z4b(r:zha)(h:kva r):Zxa r=some (wAb r):=by
 have ht:=h.to;have hr:=h.res;have hd:=h.dom;unfold Zxa wAb;have e1:((bif decide (r.Attempt.Entry < 0) then some true else some (decide (1000000 < r.Attempt.Entry))):Option Bool)=some (decide (r.Attempt.Entry < 0) || decide (1000000 < r.Attempt.Entry)):=by cases decide (r.Attempt.Entry < 0) <;> rfl
 rw[e1];simp only[jAb,zQa];cases decide (r.Attempt.Entry < 0) || decide (1000000 < r.Attempt.Entry) with
 | true=>rfl
 | false=>
  simp only[cond_false,jAf,if_false];rw[jZa _ (by omega)];simp only[jAb];cases domP r.Attempt.Domain with
  | false=>rfl
  | true=>
   simp only[jBg,cond_false,jAf,if_false];have e2:((bif decide ((r.Attempt.To.length:Int) < 1) then some true else some (decide (60 < (r.Attempt.To.length:Int)))):Option Bool)=some (decide (r.Attempt.To.length < 1) || decide (60 < r.Attempt.To.length)):=by
    have a1:decide ((r.Attempt.To.length:Int) < 1)=decide (r.Attempt.To.length < 1):=by congr 1;apply propext;omega
    have a2:decide (60 < (r.Attempt.To.length:Int))=decide (60 < r.Attempt.To.length):=by congr 1;apply propext;omega
    rw[a1,a2];cases decide (r.Attempt.To.length < 1) <;> rfl
   rw[e2];simp only[jAb];cases decide (r.Attempt.To.length < 1) || decide (60 < r.Attempt.To.length) with
   | true=>rfl
   | false=>
    simp only[cond_false,jAf,if_false];rw[done_l1 r ht];cases attL (-1) r.Attempt.To with
    | false=>rfl
    | true=>
     simp only[if_true,jAb,Sum.elim_inl,jBg,jAf,if_false];by_cases hl:r.Results.length=r.Attempt.To.length
     .rw[show ((r.Results.length:Int) !=(r.Attempt.To.length:Int))=false by rw[hl];simp,if_neg (by simpa using hl)];simp only[cond_false];have hany:∃z:Int,((iter (w8a r) 0).bind (Sum.elim (fun _=>some ((-1))) (fun b=>some b)):Option Int)=some z/\decide (0<=z)=r.Results.any badR:=by
       rw[zZa r.Results (fun i x=>if badR x then some ((i:Nat):Int) else none) (.inl ()) .inr]
       .refine ⟨_,?_,k9b badR r.Results⟩;simp only[jAb,Vna]
       .unfold w8a;rw[zCa];rfl
       intro i x hx;have hi:=zEa hx;unfold w8a;rw[z1a hx,zva hx];simp only[cond_true,jAb,sc i (by omega)];unfold badR;cases decide (x < 1) <;> cases decide (4 < x) <;> rfl
      obtain ⟨z,hz1,hz2⟩:=hany;first
       | rw[hz1]
       | (simp only[hz1])
      simp only[jAb,hz2,kLa];cases r.Results.any badR <;> rfl
     rw[show ((r.Results.length:Int) !=(r.Attempt.To.length:Int))=true by simp;omega,if_pos hl];rfl
theorem Zea(r:zha)(h:kva r):waa r=some (rcdF r):=by
 unfold waa rcdF;have e1:((bif (r.Kind !=1) then some ((r.Kind !=2)) else some false):Option Bool)=some (r.Kind !=1 && r.Kind !=2):=by cases r.Kind !=1 <;> rfl
 rw[e1];simp only[jAb,zQa,yea];cases r.Kind !=1 && r.Kind !=2 with
 | true=>rfl
 | false=>
  simp only[cond_false,jAf,if_false];show (bif !yia r.Now then _ else _)=_;cases yia r.Now with
  | false=>rfl
  | true=>
   simp only[jBg,cond_false,jAf,if_false];rw[YVa r h];simp only[jAb];have e2:(!(if r.Kind==2 then noMl r.Mail else VAa r))=(if r.Kind==2 then !noMl r.Mail else !VAa r):=by cases r.Kind==2 <;> rfl
   rw[e2];cases (if r.Kind==2 then !noMl r.Mail else !VAa r) with
   | true=>rfl
   | false=>
    simp only[cond_false,jAf,if_false];cases r.Kind==2 with
    | true=>
     simp only[cond_true,if_true];rw[z4b r h];rfl
    | false=>
     simp only[cond_false,jAf,if_false];rw[yra _ h.mail.1 h.mail.2];simp only[jAb,kba,kLa];cases (yda r.Mail).Code !=0 <;> rfl
theorem Wka(r:zha)(h:kva r):vKa r=some (rcdF r):=by
 have ht:=h.to;have hr:=h.res;have hd:=h.dom;unfold vKa rcdF;have e1:((bif (r.Kind !=1) then some ((r.Kind !=2)) else some false):Option Bool)=some (r.Kind !=1 && r.Kind !=2):=by cases r.Kind !=1 <;> rfl
 rw[e1];simp only[jAb,qTa,jfa];cases hk0:r.Kind !=1 && r.Kind !=2 with
 | true=>rfl
 | false=>
  simp only[cond_false,jAf,if_false];cases yia r.Now with
  | false=>rfl
  | true=>
   simp only[jBg,cond_false,jAf,if_false];have ei:∀n:Nat,((n:Int)==0)=decide (n=0):=fun n=>by rw[jAq];simp
   have e3:((bif (r.Attempt.Entry==0) then (bif (r.Attempt.Domain==([]:Str)) then (bif ((r.Attempt.To.length:Int)==0) then some (((r.Results.length:Int)==0)) else some false) else some false) else some false):Option Bool)=some (VAa r):=by
    rw[ei,ei];unfold VAa;cases r.Attempt.Entry==0 <;> cases r.Attempt.Domain==[] <;> cases decide (r.Attempt.To.length=0) <;> rfl
   have e4:((bif (r.Mail.Envelope.From==([]:Str)) then (bif (r.Mail.Envelope.Id==([]:Str)) then (bif ((r.Mail.Envelope.To.length:Int)==0) then (bif ((r.Mail.Message.Fields.length:Int)==0) then some (((r.Mail.Message.Body.length:Int)==0)) else some false) else some false) else some false) else some false):Option Bool)=some (noMl r.Mail):=by
    rw[ei,ei,ei];unfold noMl;cases r.Mail.Envelope.From==[] <;> cases r.Mail.Envelope.Id==[] <;> cases decide (r.Mail.Envelope.To.length=0) <;> cases decide (r.Mail.Message.Fields.length=0) <;> rfl
   rw[e3,e4];simp only[jAb];have hk12:(r.Kind==2)= !(r.Kind==1):=by
    simp[bne]at hk0;by_cases h1:r.Kind=1
    .rw[h1];rfl
    rw[hk0 h1];rfl
   have e5:((bif (r.Kind==1) then (bif (!VAa r) then some true else (bif (r.Kind==2) then some ((!noMl r.Mail)) else some false)) else (bif (r.Kind==2) then some ((!noMl r.Mail)) else some false)):Option Bool)=some (if r.Kind==2 then !noMl r.Mail else !VAa r):=by
    rw[hk12];cases r.Kind==1 <;> cases VAa r <;> cases noMl r.Mail <;> rfl
   rw[e5];simp only[jAb];cases (if r.Kind==2 then !noMl r.Mail else !VAa r) with
   | true=>rfl
   | false=>
    simp only[cond_false,jAf,if_false];rw[hk12];cases r.Kind==1 with
    | true=>
     simp only[cond_true,jBg,jAf,if_false];rw[Zda _ h.mail.1 h.mail.2];simp only[jAb];cases (yda r.Mail).Code !=0 <;> rfl
    | false=>
     simp only[cond_false,jDb,if_true,vea,jAb];unfold wAb;have a1:(!(decide (0<=r.Attempt.Entry) && decide (r.Attempt.Entry<=1000000)))=(decide (r.Attempt.Entry < 0) || decide (1000000 < r.Attempt.Entry)):=by rw[jAq];simp
     rw[a1];cases decide (r.Attempt.Entry < 0) || decide (1000000 < r.Attempt.Entry) with
     | true=>rfl
     | false=>
      simp only[cond_false,jAf,if_false];rw[Vpa _ (by omega)];simp only[jAb];cases domP r.Attempt.Domain with
      | false=>rfl
      | true=>
       simp only[jBg,cond_false,jAf,if_false];have a2:(!(decide (1<=(r.Attempt.To.length:Int)) && decide ((r.Attempt.To.length:Int)<=60)))=(decide (r.Attempt.To.length < 1) || decide (60 < r.Attempt.To.length)):=by
        rw[jAq];simp only[jBs,Bool.and_eq_false_iff,jBv,decide_eq_false_iff_not,decide_eq_true_eq];omega
       rw[a2];cases decide (r.Attempt.To.length < 1) || decide (60 < r.Attempt.To.length) with
       | true=>rfl
       | false=>
        simp only[cond_false,jAf,if_false];rw[done_l1R r ht];cases attL (-1) r.Attempt.To with
        | false=>rfl
        | true=>
         simp only[if_true,jAb,Sum.elim_inl,jBg,jAf,if_false];by_cases hl:r.Results.length=r.Attempt.To.length
         .rw[show ((r.Results.length:Int) !=(r.Attempt.To.length:Int))=false by rw[hl];simp,if_neg (by simpa using hl)];simp only[cond_false];rw[zZa r.Results (fun _ x=>if badR x then some (⟨3, -5⟩:zpa) else none) (.inl ()) .inr,yoa]
          .simp only[jAb];cases r.Results.any badR <;> rfl
          .unfold wqa;rw[zCa];rfl
          intro i x hx;have hi:=zEa hx;unfold wqa;rw[z1a hx,zva hx];simp only[cond_true,jAb,vea,qTa,sc i (by omega)];have a3:(!(decide (1<=x) && decide (x<=4)))=badR x:=by unfold badR;rw[jAq];simp
          rw[a3];cases badR x <;> rfl
         rw[show ((r.Results.length:Int) !=(r.Attempt.To.length:Int))=true by simp;omega,if_pos hl];rfl
def lpL{α:Type}(item:Lft->α × Lft):Nat->Lft->List α × Lft
 | 0,s=>([],s)
 | _+1,none=>([],none)
 | n+1,some b=>((item (some b)).1::(lpL item n (item (some b)).2).1,(lpL item n (item (some b)).2).2)
theorem lpL_succ{α:Type}(item:Lft->α × Lft)(n:Nat)(b:List UInt8):lpL item (n+1) (some b)=((item (some b)).1::(lpL item n (item (some b)).2).1,(lpL item n (item (some b)).2).2):=rfl
def lpR(s:Lft):zca × Lft:=(⟨(pT s).1,(pN (pT s).2).1⟩,(pN (pT s).2).2)
def lpF(s:Lft):zja × Lft:=(⟨(pT s).1,(pT (pT s).2).1⟩,(pT (pT s).2).2)
structure zdb {α:Type} (item:Lft->α × Lft) (enc:α->List UInt8):Prop where
 bad:(item none).2=none
 inv:∀s x b,item s=(x,some b)->∃b0,s=some b0/\b0=enc x++b/\8<=(enc x).length
theorem y8b:zdb pN num8:=⟨rfl,fun s x b h=>by
 obtain ⟨b0,h1,_,_,h4⟩:=J1a h;exact ⟨b0,h1,h4,by rw[kra];omega⟩⟩
theorem item_R:zdb lpR spR:=⟨rfl,fun s x b h=>by
 unfold lpR at h;cases h2:(pN (pT s).2).2 with
 | none=>rw[h2]at h;cases h
 | some b2=>
  rw[h2]at h;cases h;obtain ⟨b1,e1,_,_,e4⟩:=J1a (s:=(pT s).2) (n:=(pN (pT s).2).1) (b:=b) (by rw[<-h2]);obtain ⟨b0,f1,_,f3⟩:=J2a (s:=s) (t:=(pT s).1) (b:=b1) (by rw[<-e1]);exact ⟨b0,f1,by rw[f3,e4];simp[spR],by unfold spR;rw[jAl,q0a];omega⟩⟩
theorem item_F:zdb lpF spF:=⟨rfl,fun s x b h=>by
 unfold lpF at h;cases h2:(pT (pT s).2).2 with
 | none=>rw[h2]at h;cases h
 | some b2=>
  rw[h2]at h;cases h;obtain ⟨b1,e1,_,e4⟩:=J2a (s:=(pT s).2) (t:=(pT (pT s).2).1) (b:=b) (by rw[<-h2]);obtain ⟨b0,f1,_,f3⟩:=J2a (s:=s) (t:=(pT s).1) (b:=b1) (by rw[<-e1]);exact ⟨b0,f1,by rw[f3,e4];simp[spF],by unfold spF;rw[jAl,q0a];omega⟩⟩
theorem YWa{α:Type}{item:Lft->α × Lft}{enc:α->List UInt8}:∀(l:List α) (b:List UInt8),(∀x∈l,∀b,item (some (enc x++b))=(x,some b))->lpL item l.length (some (l.flatMap enc++b))=(l,some b)
 | [],b,_=>rfl
 | x::l,b,h=>by
  rw[jDv,jAv,jCg];unfold lpL;rw[h x (by simp)];dsimp only;rw[YWa l b (fun y hy=>h y (by simp[hy]))]
theorem y9b{α:Type}{item:Lft->α × Lft}{enc:α->List UInt8}(h:zdb item enc):∀(n:Nat) (s:Lft) (B:Nat),(∀b,s=some b->b.length<=B)->(lpL item n s).1.length * 8<=B+8
 | 0,s,B,_=>by simp[lpL]
 | n+1,none,B,_=>by simp[lpL]
 | n+1,some b,B,hb=>by
  have hbB:=hb b rfl;unfold lpL;dsimp only;rw[jCg];cases hi:(item (some b)).2 with
  | none=>
   have:(lpL item n none).1.length=0:=by cases n <;> rfl
   rw[this];omega
  | some b1=>
   obtain ⟨b0,f1,f2,f3⟩:=h.inv (some b) (item (some b)).1 b1 (by rw[<-hi]);cases f1;have hl:b.length=(enc (item (some b)).1).length+b1.length:=by rw[<-jAl,<-f2]
   have:=y9b h n (some b1) (B - 8) (fun b' hb' =>by cases hb';omega);omega
theorem yUa{α:Type}{item:Lft->α × Lft}(h:∀s,qua s->qua (item s).2):∀(n:Nat) (s:Lft),qua s->qua (lpL item n s).2
 | 0,s,hs=>hs
 | n+1,none,hs=>fun b hb=>by cases hb
 | n+1,some b,hs=>yUa h n _ (h _ hs)
theorem Wla{α:Type}{item:Lft->α × Lft}{P:α->Prop}(h:∀s,qua s->qua (item s).2/\P (item s).1):∀(n:Nat) (s:Lft),qua s->∀x∈(lpL item n s).1,P x
 | 0,s,hs,x,hx=>by cases hx
 | n+1,none,hs,x,hx=>by cases hx
 | n+1,some b,hs,x,hx=>by
  rcases jCf.1 hx with rfl | hx
  .exact (h _ hs).2
  exact Wla h n _ (h _ hs).1 x hx
theorem q6b{α:Type}{item:Lft->α × Lft}{enc:α->List UInt8}(hi:zdb item enc)(n:Int)(hn:n<=9223372036854775807){body:Int × zia × List α->Option (Step (Int × zia × List α) (zia × List α))}
 (h1:∀(i:Nat) b out,(i:Int) < n->out.length<=1048576->b.length<=1048576->body ((i:Int),rdr (some b),out)=some (.cont (((i+1:Nat):Int),rdr (item (some b)).2,out++ [(item (some b)).1])))
 (h2:∀(i:Nat) s out,¬((i:Int) < n/\s≠none)->body ((i:Int),rdr s,out)=some (.out (rdr s,out))):
 ∀(k i:Nat) (s:Lft) (out:List α),k=(n - (i:Int)).toNat->(∀b,s=some b->out.length * 8+b.length<=1048576)->
  iter body ((i:Int),rdr s,out)=some (rdr (lpL item k s).2,out++(lpL item k s).1):=by
 intro k;induction k with
 | zero=>
  intro i s out hk hs;rw[zDa (h2 i s out (by omega))];simp[lpL]
 | succ k ih=>
  intro i s out hk hs;cases s with
  | none=>
   rw[zDa (h2 i none out (by simp))];simp[lpL]
  | some b=>
   have hb:=hs b rfl;rw[z2a (h1 i b out (by omega) (by omega) (by omega))];have:=ih (i+1) (item (some b)).2 (out++ [(item (some b)).1]) (by omega) (fun b1 hb1=>by
    obtain ⟨b0,f1,f2,f3⟩:=hi.inv (some b) (item (some b)).1 b1 (by rw[<-hb1]);cases f1;have hl:b.length=(enc (item (some b)).1).length+b1.length:=by rw[<-jAl,<-f2]
    simp only[jAl,jCt];omega)
   rw[this,lpL_succ];simp
theorem Qea(i n:Int)(s:Lft):((bif decide (i < n) then some (!(rdr s).bad) else some false):Option Bool)=some (decide (i < n/\s≠none)):=by
 cases s with
 | none=>simp[rdr]
 | some b=>by_cases h:i < n <;> simp[rdr,h]
theorem read_l1(v9:Int × zia)(hn:v9.1<=9223372036854775807)(s:Lft)(hs:qua s):iter (vpa v9) (0,rdr s,([]:List zca))=some (rdr (lpL lpR v9.1.toNat s).2,(lpL lpR v9.1.toNat s).1):=by
 have:=q6b item_R v9.1 hn (body:=vpa v9) (fun i b out hi ho hb=>by
  have hsb:qua (some b):=fun b' h' =>by cases h';exact hb
  unfold vpa;dsimp only;rw[Qea,decide_eq_true (show (i:Int) < v9.1/\(some b:Lft)≠none from ⟨hi,by simp⟩)];simp only[jAb,cond_true];rw[kga _ hsb];simp only[jAb];rw[zKa _ (qda hsb).1];simp only[jAb,sc i (by omega)];rw[qma (by simp;omega)];rfl) (fun i s out hc=>by
  unfold vpa;dsimp only;rw[Qea,decide_eq_false hc];rfl) (v9.1 - ((0:Nat):Int)).toNat 0 s [] rfl (fun b hb=>by have:=hs b hb;simp;omega)
 rw[show (v9.1 - ((0:Nat):Int)).toNat=v9.1.toNat by omega]at this;rw[show iter (vpa v9) (0,rdr s,([]:List zca))=_ from this];simp
theorem read_l2(v9:Int × zia)(hn:v9.1<=9223372036854775807)(s:Lft)(hs:qua s):iter (vqa v9) (0,rdr s,([]:List zja))=some (rdr (lpL lpF v9.1.toNat s).2,(lpL lpF v9.1.toNat s).1):=by
 have:=q6b item_F v9.1 hn (body:=vqa v9) (fun i b out hi ho hb=>by
  have hsb:qua (some b):=fun b' h' =>by cases h';exact hb
  unfold vqa;dsimp only;rw[Qea,decide_eq_true (show (i:Int) < v9.1/\(some b:Lft)≠none from ⟨hi,by simp⟩)];simp only[jAb,cond_true];rw[kga _ hsb];simp only[jAb];rw[kga _ (qda hsb).1];simp only[jAb,sc i (by omega)];rw[qma (by simp;omega)];rfl) (fun i s out hc=>by
  unfold vqa;dsimp only;rw[Qea,decide_eq_false hc];rfl) (v9.1 - ((0:Nat):Int)).toNat 0 s [] rfl (fun b hb=>by have:=hs b hb;simp;omega)
 rw[show (v9.1 - ((0:Nat):Int)).toNat=v9.1.toNat by omega]at this;rw[show iter (vqa v9) (0,rdr s,([]:List zja))=_ from this];simp
theorem jab(v9:Int × zia)(hn:v9.1<=9223372036854775807)(s:Lft)(hs:qua s):iter (vra v9) (0,rdr s,([]:List Int))=some (rdr (lpL pN v9.1.toNat s).2,(lpL pN v9.1.toNat s).1):=by
 have:=q6b y8b v9.1 hn (body:=vra v9) (fun i b out hi ho hb=>by
  have hsb:qua (some b):=fun b' h' =>by cases h';exact hb
  have hnum:=zKa (some b) hsb;unfold zHa at hnum;unfold vra;dsimp only;rw[Qea,decide_eq_true (show (i:Int) < v9.1/\(some b:Lft)≠none from ⟨hi,by simp⟩)];simp only[jAb,cond_true];rw[show ((bif decide (((rdr (some b)).b.length:Int) < 8) then some ((0,(zia.mk ([]) true))) else (iter (ZXa ((i:Int),rdr (some b),out)) ((0,0))).bind fun b56=>(cut (rdr (some b)).b 8 (((rdr (some b)).b.length:Int))).bind fun v63=>some (((w64 b56),(zia.mk v63 (rdr (some b)).bad)))):Option (Int × zia))=_ from hnum];simp only[jAb,sc i (by omega)];rw[qma (by simp;omega)];rfl) (fun i s out hc=>by
  unfold vra;dsimp only;rw[Qea,decide_eq_false hc];rfl) (v9.1 - ((0:Nat):Int)).toNat 0 s [] rfl (fun b hb=>by have:=hs b hb;simp;omega)
 rw[show (v9.1 - ((0:Nat):Int)).toNat=v9.1.toNat by omega]at this;rw[show iter (vra v9) (0,rdr s,([]:List Int))=_ from this];simp
theorem read_l5(v9:Int × zia)(hn:v9.1<=9223372036854775807)(s:Lft)(hs:qua s):iter (ZYa v9) (0,rdr s,([]:List Int))=some (rdr (lpL pN v9.1.toNat s).2,(lpL pN v9.1.toNat s).1):=jab v9 hn s hs
def zMl:kia:=⟨⟨[],[],[]⟩,⟨[],[]⟩⟩
def pMl(s:Lft):kia × Lft:=
 let f:=pT s;let c:=pN f.2;let to:=lpL lpR c.1.toNat c.2;let id:=pT to.2;let m:=pN id.2;let fs:=lpL lpF m.1.toNat m.2;let bd:=pT fs.2
 (⟨⟨f.1,to.1,id.1⟩,⟨fs.1,bd.1⟩⟩,bd.2)
def pAt(s:Lft):(zxa × List Int) × Lft:=
 let e:=pN s;let d:=pT e.2;let c:=pN d.2;let to:=lpL pN c.1.toNat c.2;let m:=pN to.2;let rs:=lpL pN m.1.toNat m.2
 ((⟨e.1,d.1,to.1⟩,rs.1),rs.2)
def lpK(k t:Int)(s:Lft):zha × Lft:=if k==1 then (⟨k,t,(pMl s).1,⟨0,[],[]⟩,[]⟩,(pMl s).2) else (⟨k,t,zMl,(pAt s).1.1,(pAt s).1.2⟩,(pAt s).2)
def lpB(b:List UInt8):zha × Lft:=lpK (pN (some b)).1 (pN (pN (some b)).2).1 (pN (pN (some b)).2).2
theorem z5b(s:Lft):ok64 (pN s).1:=by
 cases s with
 | none=>show ok64 0;unfold ok64;omega
 | some b=>
  unfold pN;dsimp only;split
  .show ok64 0;unfold ok64;omega
  exact vxb _
theorem pN_hi(s:Lft):(pN s).1<=9223372036854775807:=by have:=z5b s;unfold ok64 at this;omega
theorem VBa(s:Lft)(h:qua s):qua (lpR s).2/\(lpR s).1.Address.length<=1048576:=⟨kya (qda h).1,(qda h).2⟩
theorem YXa(s:Lft)(h:qua s):qua (lpF s).2/\((lpF s).1.Name.length<=1048576/\(lpF s).1.Value.length<=1048576):=⟨(qda (qda h).1).1,(qda h).2,(qda (qda h).1).2⟩
theorem vKb{α:Type}{item:Lft->α × Lft}{enc:α->List UInt8}(h:zdb item enc)(n:Nat)(s:Lft)(hs:qua s):(lpL item n s).1.length<=1048576:=by
 have:=y9b h n s 1048576 hs;omega
theorem jbb(s:Lft)(h:qua s):vOa (pMl s).1:=by
 have a1:=qda h;have a2:=kya a1.1;have a3:=yUa (fun s hs=>(VBa s hs).1) (pN (pT s).2).1.toNat _ a2;have a4:=qda a3;have a5:=kya a4.1;have a6:=yUa (fun s hs=>(YXa s hs).1) (pN (pT (lpL lpR (pN (pT s).2).1.toNat (pN (pT s).2).2).2).2).1.toNat _ a5;have a7:=qda a6;exact ⟨⟨a1.2,a4.2,vKb item_R _ _ a2,Wla (P:=fun r:zca=>r.Address.length<=1048576) VBa _ _ a2⟩,⟨vKb item_F _ _ a5,Wla (P:=fun f:zja=>f.Name.length<=1048576/\f.Value.length<=1048576) YXa _ _ a5⟩,a7.2⟩
theorem YYa:vOa zMl:=⟨⟨by simp[zMl],by simp[zMl],by simp[zMl],fun r hr=>by simp[zMl]at hr⟩,⟨by simp[zMl],fun r hr=>by simp[zMl]at hr⟩,by simp[zMl]⟩
theorem jcb(s:Lft)(h:qua s):(pAt s).1.1.Domain.length<=1048576/\(pAt s).1.1.To.length<=1048576/\(pAt s).1.2.length<=1048576:=by
 have a1:=kya h;have a2:=qda a1;have a3:=kya a2.1;have a4:=yUa (fun s hs=>kya hs) (pN (pT (pN s).2).2).1.toNat _ a3;have a5:=kya a4;exact ⟨a2.2,vKb y8b _ _ a3,vKb y8b _ _ a5⟩
theorem YZa(b:List UInt8)(h:b.length<=1048576):kva (lpB b).1:=by
 have h0:qua (some b):=fun b' hb=>by cases hb;exact h
 have h1:=kya (kya h0);unfold lpB lpK;split
 .exact ⟨jbb _ h1,by simp,by simp,by simp⟩
 obtain ⟨a1,a2,a3⟩:=jcb _ h1;exact ⟨YYa,a1,a2,a3⟩
theorem VCa(b:List UInt8)(h:b.length<=1048576):Zza b=some ((lpB b).1,decide ((lpB b).2=some []) && ((rcdF (lpB b).1).Code==0)):=by
 have hsm:=YZa b h;have h0:qua (some b):=fun b' hb=>by cases hb;exact h
 have h1:=kya h0;have h2:=kya h1;have key:∀(s:Lft) (r:zha),kva r->((bif (!(rdr s).bad) then (bif (((rdr s).b.length:Int)==0) then (waa r).bind fun v92=>(z7a v92).bind fun v94=>some ((!v94)) else some false) else some false):Option Bool)=some (decide (s=some []) && ((rcdF r).Code==0)):=by
  intro s r hr;rw[Zea r hr];cases s with
  | none=>rfl
  | some b=>
   cases b with
   | nil=>simp[rdr,kba,bne]
   | cons c b=>
    have:(((rdr (some (c::b))).b.length:Int)==0)=false:=by
     rw[beq_eq_false_iff_ne];show (((c::b).length:Nat):Int)≠0;simp;omega
    rw[this];simp[rdr]
 unfold Zza;rw[show (zia.mk b false)=rdr (some b) from rfl,zKa _ h0];simp only[jAb];rw[zKa _ h1];simp only[jAb];unfold lpB at hsm ⊢;generalize (pN (some b)).1=kk at hsm ⊢;generalize (pN (pN (some b)).2).1=tt at hsm ⊢;generalize (pN (pN (some b)).2).2=s at h2 hsm ⊢;unfold lpK at hsm ⊢;by_cases hk:kk=1
 .subst hk;rw[if_pos (by decide)]at hsm ⊢;simp only[beq_self_eq_true,cond_true];have a1:=qda h2;have a2:=kya a1.1;have a3:=yUa (fun s hs=>(VBa s hs).1) (pN (pT s).2).1.toNat _ a2;have a4:=qda a3;have a5:=kya a4.1;have a6:=yUa (fun s hs=>(YXa s hs).1) (pN (pT (lpL lpR (pN (pT s).2).1.toNat (pN (pT s).2).2).2).2).1.toNat _ a5;rw[kga _ h2];simp only[jAb];rw[zKa _ a1.1];simp only[jAb];rw[read_l1 _ (pN_hi _) _ a2];simp only[jAb];rw[kga _ a3];simp only[jAb];rw[zKa _ a4.1];simp only[jAb];rw[read_l2 _ (pN_hi _) _ a5];simp only[jAb];rw[kga _ a6];simp only[jAb];have:=key (pMl s).2 _ hsm;unfold pMl at this hsm ⊢;dsimp only at this hsm ⊢;rw[this];rfl
 have hk' :(kk==1)=false:=beq_eq_false_iff_ne.2 hk;rw[if_neg (by simpa using hk)]at hsm ⊢;rw[hk'];simp only[cond_false];have a1:=kya h2;have a2:=qda a1;have a3:=kya a2.1;have a4:=yUa (fun s hs=>kya hs) (pN (pT (pN s).2).2).1.toNat _ a3;have a5:=kya a4;rw[zKa _ h2];simp only[jAb];rw[kga _ a1];simp only[jAb];rw[zKa _ a2.1];simp only[jAb];rw[jab _ (pN_hi _) _ a3];simp only[jAb];rw[zKa _ a4];simp only[jAb];rw[read_l5 _ (pN_hi _) _ a5];simp only[jAb];have:=key (pAt s).2 _ hsm;unfold pAt zMl at this hsm ⊢;dsimp only at this hsm ⊢;rw[this];rfl
structure wBb (r:zha):Prop where
 kind:ok64 r.Kind
 now:ok64 r.Now
 entry:ok64 r.Attempt.Entry
 notify:∀x∈r.Mail.Envelope.To,ok64 x.Notify
 to:∀x∈r.Attempt.To,ok64 x
 res:∀x∈r.Results,ok64 x
theorem vLb(n:Nat)(h:n<=1048576):ok64 (n:Int):=by unfold ok64;omega
theorem lpR_enc(r:zca)(h1:r.Address.length<=1048576)(h2:ok64 r.Notify)(b:List UInt8):lpR (some (spR r++b))=(r,some b):=by
 unfold lpR spR;rw[jAv,Wwa _ h1];dsimp only;rw[Kaa _ h2]
theorem lpF_enc(f:zja)(h1:f.Name.length<=1048576)(h2:f.Value.length<=1048576)(b:List UInt8):lpF (some (spF f++b))=(f,some b):=by
 unfold lpF spF;rw[jAv,Wwa _ h1];dsimp only;rw[Wwa _ h2]
theorem pMl_enc(m:kia)(h:vOa m)(hn:∀x∈m.Envelope.To,ok64 x.Notify)(b:List UInt8):pMl (some (spM m++b))=(m,some b):=by
 obtain ⟨t1,t2⟩:=KOa h;obtain ⟨f1,f2⟩:=Vya h;have h3:=h.1.1;have h4:=h.1.2.1;have h5:=h.2.2;unfold pMl spM spRs spFs;simp only[jAv];rw[Wwa _ h3];dsimp only;rw[Kaa _ (vLb _ t1)];dsimp only;rw[jAy,YWa _ _ (fun x hx b=>lpR_enc x (t2 x hx) (hn x hx) b)];dsimp only;rw[Wwa _ h4];dsimp only;rw[Kaa _ (vLb _ f1)];dsimp only;rw[jAy,YWa _ _ (fun x hx b=>lpF_enc x (f2 x hx).1 (f2 x hx).2 b)];dsimp only;rw[Wwa _ h5]
theorem pAt_enc(r:zha)(h:kva r)(ho:wBb r)(b:List UInt8):pAt (some (spA r++b))=((r.Attempt,r.Results),some b):=by
 unfold pAt spA wnb;simp only[jAv];rw[Kaa _ ho.entry];dsimp only;rw[Wwa _ h.dom];dsimp only;rw[Kaa _ (vLb _ h.to)];dsimp only;rw[jAy,YWa _ _ (fun x hx b=>Kaa x (ho.to x hx) b)];dsimp only;rw[Kaa _ (vLb _ h.res)];dsimp only;rw[jAy,YWa _ _ (fun x hx b=>Kaa x (ho.res x hx) b)]
theorem rcd_nf{r:zha}(h:(rcdF r).Code=0):(r.Kind=1/\r.Attempt=⟨0,[],[]⟩/\r.Results=[]/\(yda r.Mail).Code=0)∨(r.Kind=2/\r.Mail=zMl/\(wAb r).Code=0):=by
 unfold rcdF at h;by_cases h1:(r.Kind !=1 && r.Kind !=2)=true
 .rw[if_pos h1]at h;simp at h
 rw[if_neg h1]at h;by_cases h2:(!yia r.Now)=true
 .rw[if_pos h2]at h;simp at h
 rw[if_neg h2]at h;by_cases hk:r.Kind=2
 .have hk' :(r.Kind==2)=true:=by simpa using hk
  rw[hk']at h;simp only[if_true]at h;right;cases h3:noMl r.Mail with
  | false=>rw[h3]at h;simp at h
  | true=>
   rw[h3]at h;simp only[jBg,jAf,if_false]at h;refine ⟨hk,?_,h⟩;unfold noMl at h3;simp only[jAs,beq_iff_eq,decide_eq_true_eq,List.length_eq_zero_iff]at h3;obtain ⟨⟨⟨⟨a1,a2⟩,a3⟩,a4⟩,a5⟩:=h3;have:r.Mail=⟨⟨r.Mail.Envelope.From,r.Mail.Envelope.To,r.Mail.Envelope.Id⟩,⟨r.Mail.Message.Fields,r.Mail.Message.Body⟩⟩:=rfl;rw[this,a1,a2,a3,a4,a5];rfl
 have hk' :(r.Kind==2)=false:=beq_eq_false_iff_ne.2 hk;rw[hk']at h;simp only[jAf,if_false]at h;left;have hk1:r.Kind=1:=by
  simp at h1;by_cases h' :r.Kind=1
  .exact h'
  exact absurd (h1 h') hk
 cases h3:VAa r with
 | false=>rw[h3]at h;simp at h
 | true=>
  rw[h3]at h;simp only[jBg,jAf,if_false]at h;unfold VAa at h3;simp only[jAs,beq_iff_eq,decide_eq_true_eq,List.length_eq_zero_iff]at h3;obtain ⟨⟨⟨a1,a2⟩,a3⟩,a4⟩:=h3;refine ⟨hk1,?_,a4,?_⟩
  .have:r.Attempt=⟨r.Attempt.Entry,r.Attempt.Domain,r.Attempt.To⟩:=rfl;rw[this,a1,a2,a3]
  by_cases hm:(yda r.Mail).Code=0
  .exact hm
  rw[if_pos (by simpa using hm)]at h;exact absurd h hm
theorem lpB_enc(r:zha)(h:kva r)(ho:wBb r)(hf:(rcdF r).Code=0):lpB (spB r)=(r,some []):=by
 unfold lpB spB;simp only[jAv];rw[Kaa _ ho.kind];dsimp only;rw[Kaa _ ho.now];dsimp only;unfold lpK;rcases rcd_nf hf with ⟨hk,ha,hr,_⟩ | ⟨hk,hm,_⟩
 .rw[hk];simp only[beq_self_eq_true,if_true];have:=pMl_enc r.Mail h.mail ho.notify [];rw[jCw]at this;rw[this,<-ha,<-hr,<-hk]
 rw[hk];simp only[show ((2:Int)==1)=false from rfl,jAf,if_false];have:=pAt_enc r h ho [];rw[jCw]at this;rw[this,<-hm,<-hk]
theorem ok64_0:ok64 0:=by unfold ok64;omega
theorem lpB_ok(b:List UInt8)(h:b.length<=1048576):wBb (lpB b).1:=by
 have h0:qua (some b):=fun b' hb=>by cases hb;exact h
 have h1:=kya (kya h0);unfold lpB lpK;split
 .refine ⟨z5b _,z5b _,ok64_0,?_,fun x hx=>(by cases hx),fun x hx=>(by cases hx)⟩;have a1:=qda h1;have a2:=kya a1.1;exact Wla (P:=fun r:zca=>ok64 r.Notify) (fun s hs=>⟨(VBa s hs).1,z5b _⟩) _ _ a2
 have a1:=kya h1;have a2:=qda a1;have a3:=kya a2.1;have a4:=yUa (fun s hs=>kya hs) (pN (pT (pN (pN (pN (some b)).2).2).2).2).1.toNat _ a3;have a5:=kya a4;exact ⟨z5b _,z5b _,z5b _,fun x hx=>(by simp[zMl]at hx),Wla (P:=fun x:Int=>ok64 x) (fun s hs=>⟨kya hs,z5b _⟩) _ _ a3,Wla (P:=fun x:Int=>ok64 x) (fun s hs=>⟨kya hs,z5b _⟩) _ _ a5⟩
def accP(b:List UInt8):Option (zha × Nat):=match (pN (pT (some b)).2).2 with
 | none=>none
 | some rest=>if decide ((lpB (pT (some b)).1).2=some []) && ((rcdF (lpB (pT (some b)).1).1).Code==0) && (spB (lpB (pT (some b)).1).1==(pT (some b)).1) && ((pN (pT (some b)).2).1==w64 (sumB (pT (some b)).1)) then some ((lpB (pT (some b)).1).1,b.length - rest.length) else none
def zRec:zha:=⟨0,0,zMl,⟨0,[],[]⟩,[]⟩
theorem vMb{a b:Int}(ha:ok64 a)(hb:ok64 b)(h:num8 a=num8 b):a=b:=by
 rw[<-Waa a ha,h,Waa b hb]
theorem encT_inj{s t:Str}{x y:List UInt8}(hs:s.length<=35184372088832)(ht:t.length<=35184372088832)(h:encT s++x=encT t++y):s=t/\x=y:=by
 unfold encT at h;rw[jAv,jAv]at h;obtain ⟨h1,h2⟩:=List.append_inj h (by rw[kra,kra]);have h3:=vMb (by unfold ok64;omega) (by unfold ok64;omega) h1;exact List.append_inj h2 (by omega)
theorem Y0a(r:zha):(spE r).length=(spB r).length+16:=by
 unfold spE;rw[jAl,q0a,kra];omega
theorem VDa(a b:List UInt8)(h:a.length<=9223372036854775807):qsa a b=some (b.isPrefixOf a):=by
 unfold qsa yma;by_cases hl:b.length<=a.length
 .rw[decide_eq_true (show (b.length:Int)<=(a.length:Int) by omega),Vma hl];simp only[cond_true,jAb,Option.some.injEq];rw[jAq,beq_iff_eq,jCs,List.prefix_iff_eq_take];exact eq_comm
 rw[decide_eq_false (show ¬(b.length:Int)<=(a.length:Int) by omega)];simp only[cond_false,jAb,Option.some.injEq]
 symm
 rw[jDw];intro hc;rw[jCs]at hc;exact hl hc.length_le
theorem pre_eq{b body rest:List UInt8}{sm:Int}(r:zha)(hb:b=encT body++(num8 sm++rest))(ho:ok64 sm)(hl:body.length<=1048576)(hr:(spB r).length<=17592186044416):(spE r).isPrefixOf b=((spB r==body) && (sm==w64 (sumB body))):=by
 rw[jAq,jCs,jAs,beq_iff_eq,beq_iff_eq];constructor
 .rintro ⟨t,ht⟩;rw[hb]at ht;unfold spE at ht;rw[jAv]at ht;obtain ⟨h1,h2⟩:=encT_inj (by omega) (by omega) ht;obtain ⟨h3,_⟩:=List.append_inj h2 (by rw[kra,kra]);exact ⟨h1,by rw[<-h1];exact (vMb (vxb _) ho h3).symm⟩
 rintro ⟨h1,h2⟩;refine ⟨rest,?_⟩;unfold spE;rw[hb,h1,h2];simp
theorem qab{b:List UInt8}{r:zha}{n:Nat}(hl:b.length<=1048576)(h:accP b=some (r,n)):kva r/\wBb r/\(rcdF r).Code=0/\(∃rest,b=spE r++rest)/\n=(spE r).length:=by
 have h0:qua (some b):=fun b' hb=>by cases hb;exact hl
 have hT:=qda h0;unfold accP at h;cases hrest:(pN (pT (some b)).2).2 with
 | none=>rw[hrest]at h;cases h
 | some rest=>
  rw[hrest]at h;dsimp only at h;split at h
  .rename_i hc;cases h;simp only[jAs,decide_eq_true_eq,beq_iff_eq]at hc;obtain ⟨⟨⟨c1,c2⟩,c3⟩,c4⟩:=hc;obtain ⟨b1,e1,e2,e5,e6⟩:=J1a (s:=(pT (some b)).2) (n:=(pN (pT (some b)).2).1) (b:=rest) (by rw[<-hrest]);obtain ⟨b0,e3,e4,e7⟩:=J2a (s:=some b) (t:=(pT (some b)).1) (b:=b1) (by rw[<-e1]);cases e3;have hb:b=spE (lpB (pT (some b)).1).1++rest:=by
    unfold spE;rw[c3,<-c4,jAv,<-e6];exact e7
   refine ⟨YZa _ hT.2,lpB_ok _ hT.2,c2,⟨rest,hb⟩,?_⟩;have:=congrArg List.length hb;rw[jAl]at this;omega
  cases h
theorem accP_enc{r:zha}(h:kva r)(ho:wBb r)(hf:(rcdF r).Code=0)(hl:(spB r).length<=1048576)(rest:List UInt8):accP (spE r++rest)=some (r,(spE r).length):=by
 have e1:pT (some (spE r++rest))=(spB r,some (num8 (w64 (sumB (spB r)))++rest)):=by
  unfold spE;rw[jAv,Wwa _ hl]
 have e2:=Kaa (w64 (sumB (spB r))) (vxb _) rest;unfold accP;rw[e1];dsimp only;rw[e2];dsimp only;rw[lpB_enc r h ho hf];simp[hf]
def rdsN:Nat->List UInt8->List zha × Nat
 | 0,_=>([],0)
 | k+1,b=>match accP b with
  | none=>([],0)
  | some (r,n)=>(r::(rdsN k (b.drop n)).1,n+(rdsN k (b.drop n)).2)
theorem Y1a{k:Nat}{b:List UInt8}(h:accP b=none):rdsN k b=([],0):=by
 cases k with
 | zero=>rfl
 | succ k=>unfold rdsN;rw[h]
theorem Y2a{k:Nat}{b:List UInt8}{r:zha}{n:Nat}(h:accP b=some (r,n)):rdsN (k+1) b=(r::(rdsN k (b.drop n)).1,n+(rdsN k (b.drop n)).2):=by
 rw[show rdsN (k+1) b=(match accP b with | none=>([],0) | some (r,n)=>(r::(rdsN k (b.drop n)).1,n+(rdsN k (b.drop n)).2)) from rfl,h]
theorem qbb(a0:List UInt8)(hl:a0.length<=1048576)(at_:Nat)(hat:at_<=a0.length)(out:List zha)(ho:out.length<=1000):vsa a0 ((at_:Int),(at_:Int),out)=some (match accP (a0.drop at_) with
 | none=>.out (.inl ((at_:Int),out))
 | some (r,n)=>if out.length+1=100 then .out (.inr (((at_+n:Nat):Int),out++ [r])) else .cont (((at_+n:Nat):Int),((at_+n:Nat):Int),out++ [r])):=by
 have hdl:(a0.drop at_).length<=1048576:=by rw[jCc];omega
 have h0:qua (some (a0.drop at_)):=fun b' hb=>by cases hb;exact hdl
 have hT:=qda h0;have hcut:cut a0 (at_:Int) (a0.length:Int)=some (a0.drop at_):=Qwa hat;cases hacc:accP (a0.drop at_) with
 | none=>
  unfold vsa;dsimp only;rw[hcut];simp only[jAb];rw[show (zia.mk (a0.drop at_) false)=rdr (some (a0.drop at_)) from rfl,kga _ h0];simp only[jAb];rw[zKa _ hT.1];simp only[jAb];cases hrest:(pN (pT (some (a0.drop at_))).2).2 with
  | none=>rfl
  | some rest=>
   simp only[show (rdr (some rest)).bad=false from rfl,cond_false];rw[VCa _ hT.2];simp only[jAb];have hsm:=YZa _ hT.2;rw[jGa _ hsm];simp only[jAb];rw[VDa _ _ (by omega)];simp only[jAb];obtain ⟨b1,e1,e2,e5,e6⟩:=J1a (s:=(pT (some (a0.drop at_))).2) (n:=(pN (pT (some (a0.drop at_))).2).1) (b:=rest) (by rw[<-hrest]);obtain ⟨b0,e3,e4,e7⟩:=J2a (s:=some (a0.drop at_)) (t:=(pT (some (a0.drop at_))).1) (b:=b1) (by rw[<-e1]);cases e3;rw[e6]at e7;have hpre:=pre_eq (lpB (pT (some (a0.drop at_))).1).1 e7 e5 hT.2 (q3b hsm);unfold accP at hacc;rw[hrest]at hacc;dsimp only at hacc;split at hacc
   .cases hacc
   rename_i hc;have:((bif (!(decide ((lpB (pT (some (a0.drop at_))).1).2=some []) && ((rcdF (lpB (pT (some (a0.drop at_))).1).1).Code==0))) then some true else some (!((spE (lpB (pT (some (a0.drop at_))).1).1).isPrefixOf (a0.drop at_)))):Option Bool)=some true:=by
    rw[hpre];rw[Bool.and_assoc,Bool.not_eq_true]at hc;cases h1:decide ((lpB (pT (some (a0.drop at_))).1).2=some []) && ((rcdF (lpB (pT (some (a0.drop at_))).1).1).Code==0) with
    | false=>rfl
    | true=>
     rw[h1,jDh]at hc;rw[hc];rfl
   rw[this];rfl
 | some rn=>
  obtain ⟨r,n⟩:=rn;obtain ⟨q1,q2,q3,⟨rest0,q4⟩,q5⟩:=qab hdl hacc;unfold vsa;dsimp only;rw[hcut];simp only[jAb];rw[show (zia.mk (a0.drop at_) false)=rdr (some (a0.drop at_)) from rfl,kga _ h0];simp only[jAb];rw[zKa _ hT.1];simp only[jAb];unfold accP at hacc;cases hrest:(pN (pT (some (a0.drop at_))).2).2 with
  | none=>rw[hrest]at hacc;cases hacc
  | some rest=>
   rw[hrest]at hacc;dsimp only at hacc;split at hacc
   .rename_i hc;cases hacc;simp only[jAs]at hc;obtain ⟨⟨⟨c1,c2⟩,c3⟩,c4⟩:=hc;simp only[show (rdr (some rest)).bad=false from rfl,cond_false];rw[VCa _ hT.2];simp only[jAb];rw[jGa _ q1];simp only[jAb,c1,c2,Bool.and_self,jBg,cond_false];rw[VDa _ _ (by omega)];have hpre:(spE (lpB (pT (some (a0.drop at_))).1).1).isPrefixOf (a0.drop at_)=true:=by
     rw[jCs];exact ⟨rest0,q4.symm⟩
    rw[hpre];simp only[jAb,jBg,cond_false];rw[qma (by simp;omega)];simp only[jAb];have hlen:(spE (lpB (pT (some (a0.drop at_))).1).1).length<=1048576:=by
     have:=congrArg List.length q4;rw[jAl]at this;omega
    rw[vwb _ _ (by omega),<-q5];have e9:(((out++ [(lpB (pT (some (a0.drop at_))).1).1]).length:Int)==100)=decide (out.length+1=100):=by
     rw[jAl,jCt,jAq];simp;omega
    rw[e9];by_cases h100:out.length+1=100
    .rw[decide_eq_true h100,if_pos h100];rfl
    rw[decide_eq_false h100,if_neg h100];rfl
   cases hacc
theorem accP_le{b:List UInt8}{r:zha}{n:Nat}(hl:b.length<=1048576)(h:accP b=some (r,n)):16<=n/\n<=b.length:=by
 obtain ⟨_,_,_,⟨rest,h1⟩,h2⟩:=qab hl h;have:=congrArg List.length h1;rw[jAl]at this;have h3:=Y0a r;omega
theorem jdb(a0:List UInt8)(hl:a0.length<=1048576):∀(k at_:Nat) (out:List zha),at_<=a0.length->out.length+(k+1)=100->
 ∃z,iter (vsa a0) ((at_:Int),(at_:Int),out)=some z/\(z=.inl (((at_+(rdsN (k+1) (a0.drop at_)).2:Nat):Int),out++(rdsN (k+1) (a0.drop at_)).1)∨z=.inr (((at_+(rdsN (k+1) (a0.drop at_)).2:Nat):Int),out++(rdsN (k+1) (a0.drop at_)).1)):=by
 intro k;induction k with
 | zero=>
  intro at_ out hat ho;have hs:=qbb a0 hl at_ hat out (by omega);cases hacc:accP (a0.drop at_) with
  | none=>
   rw[hacc]at hs;refine ⟨_,zDa hs,.inl ?_⟩;rw[Y1a hacc];simp
  | some rn=>
   obtain ⟨r,n⟩:=rn;rw[hacc]at hs;dsimp only at hs;rw[if_pos (by omega)]at hs;refine ⟨_,zDa hs,.inr ?_⟩;rw[Y2a hacc];simp[rdsN]
 | succ k ih=>
  intro at_ out hat ho;have hs:=qbb a0 hl at_ hat out (by omega);cases hacc:accP (a0.drop at_) with
  | none=>
   rw[hacc]at hs;refine ⟨_,zDa hs,.inl ?_⟩;rw[Y1a hacc];simp
  | some rn=>
   obtain ⟨r,n⟩:=rn;rw[hacc]at hs;dsimp only at hs;rw[if_neg (by omega)]at hs;have hn:=accP_le (by rw[jCc];omega) hacc;rw[jCc]at hn;rw[z2a hs];obtain ⟨z,hz1,hz2⟩:=ih (at_+n) (out++ [r]) (by omega) (by simp;omega);refine ⟨z,hz1,?_⟩;rw[Y2a hacc,jDm];simpa[jBt]using hz2
def readF(a0:List UInt8):List zha × Int × zpa:=if 200000 < a0.length then ([],0,⟨1, -1⟩) else ((rdsN 100 a0).1,((rdsN 100 a0).2:Int),⟨0,0⟩)
theorem z6b(a0:List UInt8)(hl:a0.length<=1048576):jja a0=some (readF a0):=by
 unfold jja readF;by_cases hb:200000 < a0.length
 .rw[decide_eq_true (show (200000:Int) < (a0.length:Int) by omega),if_pos hb];rfl
 rw[decide_eq_false (show ¬(200000:Int) < (a0.length:Int) by omega),if_neg hb];simp only[cond_false,kLa];obtain ⟨z,hz1,hz2⟩:=jdb a0 hl 99 0 [] (by omega) rfl;rw[show iter (vsa a0) (0,0,([]:List zha))=some z from hz1];simp only[List.drop_zero,jBx,jDg]at hz2;rcases hz2 with rfl | rfl <;> rfl
def qza(e:zba):Int:=min (e.Tries+1) 1000000
def y9a(e:zba)(rs:List Int)(now:Int):Bool:=if rs.any latR then (wra e.Since (qza e) now).2 else true
def qva(e:zba)(rs:List Int)(now:Int):zba:=if rs.any latR then ⟨e.Id,e.Mail,e.Since,qza e,if (wra e.Since (qza e) now).2 then max (wra e.Since (qza e) now).1 e.Due else e.Due,e.To⟩ else e
def resP(e:zba)(a:zxa)(rs:List Int)(now:Int):List zfa × List zea:=(a.To.zip rs).foldl (resS (y9a e rs now) a.Entry) ([],e.To)
def Z3a(e:zba):Bool:=e.To.any opnW
def noE:zba:=⟨0,⟨⟨[],[],[]⟩,⟨[],[]⟩⟩,0,0,0,[]⟩
def endP(q:zra)(a:zxa)(rs:List Int)(now:Int)(n:Nat)(e:zba):zra × List zfa × zpa:=(⟨(q.Entries.set n (wTo (qva e rs now) (resP e a rs now).2)).filter Z3a,q.Next⟩,(resP e a rs now).1,⟨0,0⟩)
def QQa(q:zra)(a:zxa)(rs:List Int)(now:Int):zra × List zfa × zpa:=
 if (queF q).Code !=0 then (⟨[],0⟩,[],queF q) else if (attP q a true).2.Code !=0 then (⟨[],0⟩,[],(attP q a true).2) else
 if rs.length≠a.To.length then (⟨[],0⟩,[],⟨9, -6⟩) else if rs.any badR then (⟨[],0⟩,[],⟨3, -6⟩) else if !yia now then (⟨[],0⟩,[],⟨3, -7⟩) else
 if now < ((q.Entries[(attP q a true).1.toNat]?).getD noE).Since then (⟨[],0⟩,[],⟨19, -7⟩) else endP q a rs now (attP q a true).1.toNat ((q.Entries[(attP q a true).1.toNat]?).getD noE)
def Y3a(T:List zea)(M:List zca):Prop:=T.length=M.length/\∀(j:Nat) (w:zea) (r:zca),T[j]? =some w->M[j]? =some r->wBad w r=false
theorem qcb(T:List zea)(M:List zca):Y3a T M↔(T.length=M.length/\((T.zip M).any fun p=>wBad p.1 p.2)=false):=by
 unfold Y3a;refine and_congr Iff.rfl ?_;rw[jCi];constructor
 .rintro h ⟨w,r⟩ hx hb;obtain ⟨j,hj⟩:=List.mem_iff_getElem?.1 hx;rw[List.getElem?_zip_eq_some]at hj;rw[h j w r hj.1 hj.2]at hb;cases hb
 intro h j w r h1 h2;have:=h (w,r) (jAd (i:=j) (by rw[List.getElem?_zip_eq_some];exact ⟨h1,h2⟩));simpa using this
theorem wCb{again:Bool}{T:List zea}{M:List zca}{kv:Int × Int}(h:Y3a T M)(hv:badR kv.2=false):Y3a (resK again T kv) M:=by
 refine ⟨by rw[WZa];exact h.1,fun j w r h1 h2=>?_⟩;unfold resK at h1;split at h1
 .rename_i w0 hw0;by_cases hj:kv.1.toNat=j
  .subst hj;rw[jBp (zEa hw0)]at h1;cases h1;have:=h.2 _ w0 r hw0 h2;unfold wBad at this ⊢;simp only[Bool.or_eq_false_iff]at this;obtain ⟨⟨a1,a2⟩,a3⟩:=this;rw[a1];have:finV again kv.2=0∨finV again kv.2=1∨finV again kv.2=3:=by
    unfold badR at hv;simp at hv;unfold finV;cases hl:latR kv.2 with
    | true=>cases again <;> simp
    | false=>
     unfold latR at hl;simp at hl;simp only[jAf,if_false];omega
   rcases this with h | h | h <;> simp[h]
  rw[jBq hj]at h1;exact h.2 j w r h1 h2
 exact h.2 j w r h1 h2
theorem zeb{again:Bool}{id:Int}{M:List zca}:∀(l:List (Int × Int)) (s:List zfa × List zea),(∀kv∈l,badR kv.2=false)->Y3a s.2 M->Y3a (l.foldl (resS again id) s).2 M
 | [],s,_,h=>h
 | kv::l,s,hb,h=>zeb l _ (fun x hx=>hb x (by simp[hx])) (wCb h (hb kv (by simp)))
theorem wDb{e:zba}(h:Y3a e.To e.Mail.Envelope.To):Qia e=Z3a e:=by
 unfold Qia Z3a;rw[qcb]at h;rw[decide_eq_true h.1,h.2];rfl
theorem VEa{e:zba}(h:Qia e=true):Y3a e.To e.Mail.Envelope.To/\Z3a e=true:=by
 unfold Qia at h;simp only[jAs,decide_eq_true_eq,jBs]at h;exact ⟨(qcb _ _).2 ⟨h.1.1,h.1.2⟩,h.2⟩
theorem qdb{α:Type}{L:List α}{n:Nat}(x:α)(hn:n < L.length):L.set n x=L.take n++x::L.drop (n+1):=by
 rw[List.set_eq_take_append_cons_drop,if_pos hn]
theorem wEb{L:List zba}{n:Nat}{x:zba}(hn:n < L.length)(h:∀e∈L,Z3a e=true):(L.set n x).filter Z3a=if Z3a x then L.set n x else L.take n++L.drop (n+1):=by
 rw[qdb x hn,List.filter_append,List.filter_cons,List.filter_eq_self.2 (fun e he=>h e (jDi he)),List.filter_eq_self.2 (fun e he=>h e (jDj he))];split <;> rfl
theorem wFb(b:List zfa × List zba)(s:Int × List zba)(n:Nat)(e:zba)(hs:s.1=(n:Int))(he:b.2[n]? =some e)(hl:e.To.length<=1048576):iter (vJa b s) (false,0)=some (Z3a e):=by
 have:=KGa (body:=vJa b s) e.To (fun n (x:Bool)=>(x,(n:Int))) (fun n r x=>x || r.any opnW) (fun x=>by
  unfold vJa;dsimp only;rw[hs,zva he];simp only[jAb];rw[zCa];simp) (fun p x r y hp=>.inr (by
  have hx:e.To[p.length]? =some x:=by rw[hp];simp
  have hlt:=zEa hx;refine ⟨y || opnW x,?_,by simp[Bool.or_assoc]⟩;unfold vJa;dsimp only;rw[hs,zva he];simp only[jAb];rw[z1a hx,zva hx];simp only[cond_true,jAb,sc _ (show p.length < 9223372036854775807 by omega)];cases y <;> rfl)) (s0:=(false,0)) false rfl
 rw[this];simp[Z3a]
theorem q7b(o:List zfa)(L:List zba)(hn:L.length<=1048576)(hl:∀e∈L,e.To.length<=1048576):iter (qSa (o,L)) (0,([]:List zba))=some (L.filter Z3a):=by
 have:=wSa (body:=qSa (o,L)) L (fun n (s:List zba)=>((n:Int),s)) (fun n r s=>s++r.filter Z3a) (fun n r s=>s.length<=n) (fun s _=>by
  unfold qSa;dsimp only;rw[zCa];simp) (fun p x r s hp hi=>.inr (by
  have hx:L[p.length]? =some x:=by rw[hp];simp
  have hlt:=zEa hx;refine ⟨if Z3a x then s++ [x] else s,?_,?_,?_⟩
  .unfold qSa;dsimp only;rw[z1a hx,wFb (o,L) _ p.length x rfl hx (hl x (jAd hx))];simp only[cond_true,jAb,zva hx,sc _ (show p.length < 9223372036854775807 by omega)];rw[qma (by simp;omega)];cases Z3a x <;> rfl
  .rw[List.filter_cons];split <;> simp
  split <;> (try simp) <;> omega)) (s0:=(0,([]:List zba))) [] rfl (by simp)
 rw[this];simp
theorem qeb(rs:List Int)(hl:rs.length<=1048576):∀(r p:List Int) (fl:Bool),rs=p++r->∃fl2,iter (kPa rs) (fl,(p.length:Int),0,0)=some (fl2,if r.any badR then (3, -6) else (0,0))/\(r.any badR=false->fl2=(fl || r.any latR)):=by
 intro r;induction r with
 | nil=>
  intro p fl hp;have hp' :rs=p:=by simpa using hp
  refine ⟨fl,zDa ?_,fun _=>by simp⟩;unfold kPa;dsimp only;rw[<-hp',zCa];rfl
 | cons v r ih=>
  intro p fl hp;have hx:rs[p.length]? =some v:=by rw[hp];simp
  have hlt:=zEa hx;have hin:(!(decide ((1:Int)<=v) && decide (v<=4)))=badR v:=by
   unfold badR;rw[jAq];simp
  have hb:kPa rs (fl,(p.length:Int),0,0)=some (.cont (fl || latR v,((p.length+1:Nat):Int),if badR v then (3, -6) else (0,0))):=by
   unfold kPa;dsimp only;rw[z1a hx,zva hx];simp only[cond_true,jAb,vea,qTa,hin,beq_self_eq_true,sc _ (show p.length < 9223372036854775807 by omega)];unfold latR;cases badR v <;> cases fl <;> cases v==2 <;> rfl
  rw[z2a hb];cases hv:badR v with
  | true=>
   refine ⟨fl || latR v,zDa ?_,fun h=>by simp[hv]at h⟩;unfold kPa;dsimp only;rw[if_pos rfl];simp only[jDt,hv,Bool.true_or,if_true];cases decide (((p.length+1:Nat):Int) < (rs.length:Int)) <;> rfl
  | false=>
   obtain ⟨fl2,h1,h2⟩:=ih (p++ [v]) (fl || latR v) (by simp[hp]);simp only[jDt,hv,jCy,jAf,if_false];simp only[jAl,jCt]at h1;exact ⟨fl2,h1,fun h=>by rw[h2 h,Bool.or_assoc]⟩
theorem jeb{L2:List zba}{n:Nat}{x:zba}(hn:n < L2.length)(hl:L2.length<=1048576)(hx:L2[n]? =some x)(hxl:x.To.length<=1048576)(hg:Y3a x.To x.Mail.Envelope.To):((idx L2 (n:Int)).bind fun v137=>(vla v137).bind fun v139=>(bif (!v139) then ((cut3 L2 (n:Int) ((w64 ((n:Int)+1))) ((L2.length:Int))).bind fun v143=>(bif ((n:Int)==(w64 ((n:Int)+1))) then some L2 else (cut L2 0 (n:Int)).bind fun v146=>(cut L2 ((w64 ((n:Int)+1))) (L2.length:Int)).bind fun v148=>(shft L2 (n:Int) ((w64 ((n:Int)+1)))).bind fun v150=>(Yia v150 (((((Int.toNat (n:Int))+(L2.length - (Int.toNat ((w64 ((n:Int)+1)))))):Nat):Int)) ((L2.length:Int))).bind fun v152=>some ((List.take ((Int.toNat (n:Int))+(L2.length - (Int.toNat ((w64 ((n:Int)+1)))))) ((clr0 v150 (Int.toNat (((((Int.toNat (n:Int))+(L2.length - (Int.toNat ((w64 ((n:Int)+1)))))):Nat):Int))) ((zba.mk 0 ((kia.mk ((zGa.mk (([]:Str)) ([]) (([]:Str)))) ((zya.mk ([]) ([]))))) 0 0 0 ([])))))))):Option (List zba)).bind fun (j142:List zba)=>some j142 else some L2):Option (List zba))=some (if Z3a x then L2 else L2.take n++L2.drop (n+1)):=by
 rw[zva hx];simp only[jAb];rw[Kba x hxl,wDb hg];simp only[jAb];cases Z3a x with
 | true=>rfl
 | false=>
  simp only[jDb,cond_true,jAf,if_false];rw[delAt_eq L2 n _ hn hl];rfl
theorem vNb(rs:List Int)(P:Int->Bool)(hl:rs.length<=1048576){body:Int->Option (Step Int (Unit ⊕ Int))}(hout:body (rs.length:Int)=some (.out (.inl ())))(hb:∀(i:Nat) (v:Int),rs[i]? =some v->body (i:Int)=some (if P v then .out (.inr (i:Int)) else .cont ((i+1:Nat):Int))):
 ∃z:Int,((iter body 0).bind (Sum.elim (fun _=>some ((-1))) (fun b=>some b)):Option Int)=some z/\decide (0<=z)=rs.any P:=by
 refine ⟨_,?_,k9b P rs⟩;rw[zZa rs (fun i x=>if P x then some ((i:Nat):Int) else none) (.inl ()) .inr]
 .simp only[jAb,Vna]
 .exact hout
 intro i x hx;rw[hb i x hx];cases P x <;> rfl
theorem any_bad(rs:List Int)(hl:rs.length<=1048576):∃z:Int,((iter (w5a rs) 0).bind (Sum.elim (fun _=>some ((-1))) (fun b=>some b)):Option Int)=some z/\decide (0<=z)=rs.any badR:=
 vNb rs badR hl (by unfold w5a;rw[zCa];rfl) (fun i v hv=>by
  have:=zEa hv;unfold w5a;rw[z1a hv,zva hv];simp only[cond_true,jAb,badB,sc i (by omega)];cases badR v <;> rfl)
theorem any_late(rs:List Int)(hl:rs.length<=1048576):∃z:Int,((iter (w6a rs) 0).bind (Sum.elim (fun _=>some ((-1))) (fun b=>some b)):Option Int)=some z/\decide (0<=z)=rs.any latR:=
 vNb rs latR hl (by unfold w6a;rw[zCa];rfl) (fun i v hv=>by
  have:=zEa hv;unfold w6a;rw[z1a hv,zva hv];simp only[cond_true,jAb,latB,sc i (by omega)];cases latR v <;> rfl)
theorem vOb(e:zba)(rs:List Int)(now:Int):(qva e rs now).Id=e.Id:=by unfold qva;split <;> rfl
theorem zfb(e:zba)(rs:List Int)(now:Int):(qva e rs now).Mail=e.Mail:=by unfold qva;split <;> rfl
theorem W0a(e:zba)(rs:List Int)(now:Int):wTo (qva e rs now) e.To=qva e rs now:=by unfold qva;split <;> rfl
theorem z7b(e:zba)(a:zxa)(rs:List Int)(now:Int):(resP e a rs now).2.length=e.To.length:=by
 unfold resP;have:∀(l:List (Int × Int)) (s:List zfa × List zea),(l.foldl (resS (y9a e rs now) a.Entry) s).2.length=s.2.length:=by
  intro l;induction l with
  | nil=>intro s;rfl
  | cons kv l ih=>intro s;rw[List.foldl_cons,ih];exact WZa _ _ _
 rw[this]
theorem zip_bad{ks rs:List Int}(h:∀v∈rs,badR v=false):∀kv∈ks.zip rs,badR kv.2=false:=fun kv hkv=>h kv.2 (List.of_mem_zip hkv).2
theorem z8b(q:zra)(a:zxa)(rs:List Int)(now:Int)(hq:wAa q)(hw:wJa q)(hl:a.To.length<=1048576)(hrs:rs.length<=1048576):Zva q a rs now=some (QQa q a rs now):=by
 unfold Zva QQa;rw[Kca q a true hq hw hl];simp only[jAb,kba,zQa,kLa,yea];by_cases hc:(queF q).Code=0
 .obtain ⟨ok,hF⟩:=KNa hc;have h1:((queF q).Code !=0)=false:=by simp[hc]
  have hn:=ok.n;rw[h1];simp only[jAf,if_false];by_cases hca:(attP q a true).2.Code=0
  .obtain ⟨n,e,ha,he,hid,ht,t1,t2⟩:=Wja hca;have hne:=zEa he;have hem:=jAd he;obtain ⟨o1,o2,o3,o4,o5⟩:=ok.ent e hem;rw[ha];simp only[bne_self_eq_false,cond_false,jAf,if_false,jAy,he,jBk];by_cases hlen:rs.length=a.To.length
   .rw[show ((rs.length:Int) !=(a.To.length:Int))=false by rw[hlen];simp,if_neg (fun h=>h hlen)];simp only[cond_false];obtain ⟨z,hz,hzd⟩:=any_bad rs hrs;rw[hz];simp only[jAb,hzd];cases hbad:rs.any badR with
    | true=>rfl
    | false=>
     simp only[cond_false,jAf,if_false];show (bif !yia now then _ else _)=_;cases htm:yia now with
     | false=>rfl
     | true=>
      simp only[jBg,cond_false,jAf,if_false,zva he,jAb];by_cases hsi:now < e.Since
      .rw[decide_eq_true hsi,if_pos hsi];rfl
      rw[decide_eq_false hsi,if_neg hsi];simp only[cond_false];rw[wda _ (by omega)];simp only[jAb];rw[show iter (ZUa q.Entries) (0,0,q.Entries)=some (q.Entries,q.Entries.length) from YPa q.Entries (Qda hq ok)];simp only[jAb,zva he];have hbads:∀v∈rs,badR v=false:=fun v hv=>by rw[jCi]at hbad;simpa using hbad v hv
      have hg:Y3a (wTo (qva e rs now) (resP e a rs now).2).To (wTo (qva e rs now) (resP e a rs now).2).Mail.Envelope.To:=by
       show Y3a (resP e a rs now).2 (qva e rs now).Mail.Envelope.To;rw[zfb];exact zeb _ _ (zip_bad hbads) (VEa o5).1
      have hto:=(hw e hem).1;have htail:=jeb (L2:=q.Entries.set n (wTo (qva e rs now) (resP e a rs now).2)) (n:=n) (x:=wTo (qva e rs now) (resP e a rs now).2) (by simpa using hne) (by simp;omega) (by simp[hne]) (by show (resP e a rs now).2.length<=_;rw[z7b];omega) hg;have hfil:=wEb (L:=q.Entries) (x:=wTo (qva e rs now) (resP e a rs now).2) hne (fun y hy=>(VEa (ok.ent y hy).2.2.2.2).2);have hfil2:(if Z3a (wTo (qva e rs now) (resP e a rs now).2) then q.Entries.set n (wTo (qva e rs now) (resP e a rs now).2) else (q.Entries.set n (wTo (qva e rs now) (resP e a rs now).2)).take n++(q.Entries.set n (wTo (qva e rs now) (resP e a rs now).2)).drop (n+1))=(q.Entries.set n (wTo (qva e rs now) (resP e a rs now).2)).filter Z3a:=by
       rw[hfil];split
       .rfl
       rw[qdb _ hne];have hln:(q.Entries.take n).length=n:=by simp;omega
       rw[List.take_append_of_le_length (by omega),List.take_of_length_le (by omega),List.drop_append,hln,List.drop_of_length_le (by omega)];simp
      rw[hfil2]at htail;simp only[jAy]at htail;obtain ⟨y,hy,hyd⟩:=any_late rs hrs;rw[hy];simp only[jAb,hyd];have hrng:=o4;unfold rngQ at hrng;simp only[jAs,decide_eq_true_eq]at hrng;have htr:1<=qza e/\qza e<=1000000:=by unfold qza;omega
      have hid1:(qva e rs now).Id=a.Entry:=by rw[vOb,hid]
      cases hlat:rs.any latR with
      | false=>
       simp only[cond_false,jAb];have hs:qva e rs now=e:=by unfold qva;rw[hlat];rfl
       have hlp:=Vza (a:=a) (rs:=rs) (f:=⟨0,0⟩) (L:=q.Entries) (n:=n) (e:=e) (e1:=qva e rs now) (again:=y9a e rs now) (j3:=((n:Int),0,0)) (j60:=(true,q.Entries)) (j63:=(0,[])) (b:=(q.Entries,q.Entries.length)) (m:=0) hne hne hl hlen hbads hid1 rfl (fun h=>by rw[hlat]at h;cases h) (fun h=>by rw[hlat]at h;cases h) (.inl rfl) a.To [] rs [] (-1) [] e.To rfl rfl rfl (by omega) ht rfl (fun j _=>rfl) (jBb _);have hs0:q.Entries.set n (qva e rs now)=q.Entries:=by rw[hs,WXa he]
       rw[W0a,hs0]at hlp;rw[show iter (vma a rs ((n:Int),⟨0,0⟩) (q.Entries,q.Entries.length) (true,q.Entries)) (0,([]:List zfa),q.Entries)=some ((resP e a rs now).1,q.Entries.set n (wTo (qva e rs now) (resP e a rs now).2)) from hlp];simp only[jAb];rw[htail];rfl
      | true=>
       have hw64:w64 (e.Tries+1)=e.Tries+1:=k6a (by omega) (by omega);simp only[cond_true,jAb,Z2a hne,hw64,jAy,jDo];rw[show min (e.Tries+1) 1000000=qza e from rfl];rw[z3b e.Since (qza e) now hrng.1.1.1 htm htr (by omega)];simp only[jAb];have hag:y9a e rs now=(wra e.Since (qza e) now).2:=by unfold y9a;rw[hlat];rfl
       have hj:∀X:List zba,X=q.Entries.set n (qva e rs now)->iter (vma a rs ((n:Int),⟨0,0⟩) (q.Entries,q.Entries.length) ((wra e.Since (qza e) now).2,X)) (0,([]:List zfa),X)=some ((resP e a rs now).1,q.Entries.set n (wTo (qva e rs now) (resP e a rs now).2)):=by
        rintro X rfl;have hlp:=Vza (a:=a) (rs:=rs) (f:=⟨0,0⟩) (L:=q.Entries) (n:=n) (e:=e) (e1:=qva e rs now) (again:=y9a e rs now) (j3:=((n:Int),0,0)) (j60:=((wra e.Since (qza e) now).2,q.Entries.set n (qva e rs now))) (j63:=(if y9a e rs now then 0 else 3,[])) (b:=(q.Entries,q.Entries.length)) (m:=0) hne hne hl hlen hbads hid1 rfl (fun h=>hag.symm) (fun h=>rfl) (.inl rfl) a.To [] rs [] (-1) [] e.To rfl rfl rfl (by omega) ht rfl (fun j _=>rfl) (jBb _);rw[W0a]at hlp;exact hlp
       have hlate:qva e rs now=⟨e.Id,e.Mail,e.Since,qza e,if (wra e.Since (qza e) now).2 then max (wra e.Since (qza e) now).1 e.Due else e.Due,e.To⟩:=by unfold qva;rw[hlat];rfl
       cases hg2:(wra e.Since (qza e) now).2 with
       | true=>
        rw[hg2]at hj hlate;simp only[cond_true,jAb,Z2a hne,jDo,jAy];rw[hj _ (by rw[hlate];rfl)];simp only[jAb];rw[htail];rfl
       | false=>
        rw[hg2]at hj hlate;simp only[cond_false,jAb];rw[hj _ (by rw[hlate];rfl)];simp only[jAb];rw[htail];rfl
   rw[show ((rs.length:Int) !=(a.To.length:Int))=true by simp;omega,if_pos hlen];rfl
  have h2:((attP q a true).2.Code !=0)=true:=by simpa using hca
  rw[h2];rfl
 have h1:((queF q).Code !=0)=true:=by simpa using hc
 rw[h1];simp only[if_true,h1,cond_true]
theorem KQa(rs:List Int)(fl:Bool)(c d:Int)(hc:(c==0)=false):iter (kPa rs) (fl,0,c,d)=some (fl,c,d):=by
 refine zDa ?_;unfold kPa;dsimp only;rw[hc];cases decide ((0:Int) < (rs.length:Int)) <;> rfl
theorem Jta(q:zra)(a:zxa)(rs:List Int)(now:Int)(hq:wAa q)(hw:wJa q)(hl:a.To.length<=1048576)(hrs:rs.length<=1048576):jBa q a rs now=some (QQa q a rs now):=by
 unfold jBa QQa;rw[y0a q hq];simp only[jAb,qTa,jfa];by_cases hc:(queF q).Code=0
 .obtain ⟨ok,hF⟩:=KNa hc;have h1:((queF q).Code !=0)=false:=by simp[hc]
  have h2:((queF q).Code==0)=true:=by simp[hc]
  have hn:=ok.n;rw[h1,h2];simp only[cond_true,jAf,if_false];rw[j0a q a true ok hw hl];simp only[jAb];by_cases hca:(attP q a true).2.Code=0
  .obtain ⟨n,e,ha,he,hid,ht,t1,t2⟩:=Wja hca;have hne:=zEa he;have hem:=jAd he;obtain ⟨o1,o2,o3,o4,o5⟩:=ok.ent e hem;rw[ha];simp only[beq_self_eq_true,bne_self_eq_false,cond_true,cond_false,jAf,if_false,jAy,he,jBk,jAb];by_cases hlen:rs.length=a.To.length
   .rw[show ((rs.length:Int) !=(a.To.length:Int))=false by rw[hlen];simp,if_neg (fun h=>h hlen)];simp only[cond_false,jAb];obtain ⟨fl,hfl,hfl2⟩:=qeb rs hrs rs [] false rfl;rw[show iter (kPa rs) (false,0,0,0)=_ from hfl];simp only[jAb];cases hbad:rs.any badR with
    | true=>rfl
    | false=>
     have hflv:fl=rs.any latR:=by rw[hfl2 hbad];simp
     simp only[jAf,if_false,beq_self_eq_true,cond_true,jAb];cases htm:yia now with
     | false=>rfl
     | true=>
      simp only[jBg,cond_false,jAf,if_false,beq_self_eq_true,cond_true,zva he,jAb];by_cases hsi:now < e.Since
      .rw[decide_eq_true hsi,if_pos hsi];rfl
      rw[decide_eq_false hsi,if_neg hsi];simp only[cond_false,jAb,bne_self_eq_false];rw[show iter (Zca q) (0,0,([]:List zba))=some (q.Entries,q.Entries.length) from Wha q (Qda hq ok)];simp only[jAb,zva he];have hbads:∀v∈rs,badR v=false:=fun v hv=>by rw[jCi]at hbad;simpa using hbad v hv
      have hto:=(hw e hem).1;have hfil:∀o:List zfa,iter (qSa (o,q.Entries.set n (wTo (qva e rs now) (resP e a rs now).2))) (0,([]:List zba))=some ((q.Entries.set n (wTo (qva e rs now) (resP e a rs now).2)).filter Z3a):=fun o=>q7b o _ (by simp;omega) (fun y hy=>by
       rcases jBn hy with hy | rfl
       .exact (hq.2 y hy).2
       show (resP e a rs now).2.length<=_;rw[z7b];omega)
      have hrng:=o4;unfold rngQ at hrng;simp only[jAs,decide_eq_true_eq]at hrng;have htr:1<=qza e/\qza e<=1000000:=by unfold qza;omega
      have hid1:(qva e rs now).Id=a.Entry:=by rw[vOb,hid]
      rw[hflv];cases hlat:rs.any latR with
      | false=>
       simp only[cond_false,jAb];have hs:qva e rs now=e:=by unfold qva;rw[hlat];rfl
       have hlp:=Vza (a:=a) (rs:=rs) (f:=⟨0,0⟩) (L:=q.Entries) (n:=n) (e:=e) (e1:=qva e rs now) (again:=y9a e rs now) (j3:=((n:Int),0,0)) (j60:=(true,q.Entries)) (j63:=(3,q.Entries)) (b:=(q.Entries,q.Entries.length)) (m:=0) hne hne hl hlen hbads hid1 rfl (fun h=>by rw[hlat]at h;cases h) (fun h=>by rw[hlat]at h;cases h) (.inr rfl) a.To [] rs [] (-1) [] e.To rfl rfl rfl (by omega) ht rfl (fun j _=>rfl) (jBb _);have hs0:q.Entries.set n (qva e rs now)=q.Entries:=by rw[hs,WXa he]
       rw[W0a,hs0]at hlp;rw[show iter (qRa a rs ((n:Int),0,0) (q.Entries,q.Entries.length) (3,q.Entries)) (0,([]:List zfa),q.Entries)=some ((resP e a rs now).1,q.Entries.set n (wTo (qva e rs now) (resP e a rs now).2)) from hlp];simp only[jAb,hfil];rfl
      | true=>
       have hw64:w64 (e.Tries+1)=e.Tries+1:=k6a (by omega) (by omega);have htp:((bif decide (1000000 < e.Tries+1) then some 1000000 else some (e.Tries+1)):Option Int)=some (qza e):=by
        unfold qza;by_cases h:1000000 < e.Tries+1
        .rw[decide_eq_true h,Int.min_eq_right (by omega)];rfl
        rw[decide_eq_false h,Int.min_eq_left (by omega)];rfl
       simp only[cond_true,jAb,hw64,htp];rw[wzb e.Since (qza e) now hrng.1.1.1 htm htr (by omega)];simp only[jAb];have hag:y9a e rs now=(wra e.Since (qza e) now).2:=by unfold y9a;rw[hlat];rfl
       have hj:∀X:List zba,X=q.Entries.set n (qva e rs now)->iter (qRa a rs ((n:Int),0,0) (q.Entries,q.Entries.length) ((if (wra e.Since (qza e) now).2 then 0 else 3),X)) (0,([]:List zfa),X)=some ((resP e a rs now).1,q.Entries.set n (wTo (qva e rs now) (resP e a rs now).2)):=by
        rintro X rfl;have hlp:=Vza (a:=a) (rs:=rs) (f:=⟨0,0⟩) (L:=q.Entries) (n:=n) (e:=e) (e1:=qva e rs now) (again:=y9a e rs now) (j3:=((n:Int),0,0)) (j60:=(y9a e rs now,[])) (j63:=(if (wra e.Since (qza e) now).2 then 0 else 3,q.Entries.set n (qva e rs now))) (b:=(q.Entries,q.Entries.length)) (m:=0) hne hne hl hlen hbads hid1 rfl (fun h=>rfl) (fun h=>by rw[hag]) (.inr rfl) a.To [] rs [] (-1) [] e.To rfl rfl rfl (by omega) ht rfl (fun j _=>rfl) (jBb _);rw[W0a]at hlp;exact hlp
       have hlate:qva e rs now=⟨e.Id,e.Mail,e.Since,qza e,if (wra e.Since (qza e) now).2 then max (wra e.Since (qza e) now).1 e.Due else e.Due,e.To⟩:=by unfold qva;rw[hlat];rfl
       cases hg2:(wra e.Since (qza e) now).2 with
       | true=>
        rw[hg2]at hj hlate;simp only[cond_true,jAb,if_true]at hj hlate ⊢;by_cases hdue:e.Due < (wra e.Since (qza e) now).1
        .rw[decide_eq_true hdue];simp only[cond_true,jAb,Z2a hne,jDo,jAy];rw[hj _ (by rw[hlate,Int.max_eq_left (by omega)])];simp only[jAb,hfil];rfl
        rw[decide_eq_false hdue];simp only[cond_false,jAb,jAy];rw[hj _ (by rw[hlate,Int.max_eq_right (by omega)])];simp only[jAb,hfil];rfl
       | false=>
        rw[hg2]at hj hlate;simp only[cond_false,jAb,jAf,if_false]at hj hlate ⊢;rw[hj _ (by rw[hlate])];simp only[jAb,hfil];rfl
   rw[show ((rs.length:Int) !=(a.To.length:Int))=true by simp;omega,if_pos hlen];simp only[cond_true,jAb];rw[KQa rs false 9 (-6) rfl];rfl
  have h3:((attP q a true).2.Code !=0)=true:=by simpa using hca
  have h4:((attP q a true).2.Code==0)=false:=by simpa using hca
  rw[h3,h4];simp only[cond_false,jAb];rw[KQa rs false _ _ h4];simp only[jAb,h4,cond_false,h3,cond_true,if_true]
 have h1:((queF q).Code !=0)=true:=by simpa using hc
 have h2:((queF q).Code==0)=false:=by simpa using hc
 rw[h1,h2];simp only[cond_false,jAb,h2];rw[KQa rs false _ _ h2];simp only[jAb,h2,cond_false,h1,cond_true,if_true]
theorem jaa(l:List zfa)(h:l.length<=1048576):vca l l=some true:=by
 unfold vca;simp only[bne_self_eq_false,cond_false];rw[zZa l (fun _ _=>(none:Option Bool)) (.inl ()) .inr]
 .rw[vta.2 (fun _ _ _=>rfl)];rfl
 .unfold vSa;rw[zCa];rfl
 intro k w hw;have hk:=zEa hw;unfold vSa;rw[z1a hw,zva hw];simp only[cond_true,jAb,beq_self_eq_true,sc k (by omega)];rfl
theorem jfb(l:List Str)(hl:l.length<=1048576):Vha l=some ⟨⟨[115,64,120],l.map (fun s=>⟨s,1⟩),[55]⟩,⟨[],[]⟩⟩:=by
 unfold Vha;have:=(KHa l (fun i (s:List zca)=>(i,s)) (fun s x=>s++ [(⟨x,1⟩:zca)]) id (fun i s=>s.length<=i) (body:=jya l)
  (fun s _=>by unfold jya;simp[zCa]) (fun i x s hx hi=>by
   have hlt:=zEa hx;refine ⟨?_,by simp;omega⟩;unfold jya;dsimp only;rw[z1a hx,zva hx];simp only[cond_true,jAb,sc i (by omega)];rw[qma (by simp;omega)];rfl) [] (by simp)).1
 rw[this,vFb];rfl
theorem kca:wAa ⟨[],0⟩:=⟨by simp,fun e he=>by cases he⟩
theorem Z4a(q:zra)(a:zxa)(hq:wAa q):wAa (yTa q a).1:=by
 unfold yTa;split
 .exact kca
 split
 .exact kca
 split
 .exact kca
 show wAa ⟨YTa _ _ _,_⟩;unfold YTa;split
 .rename_i e he;refine ⟨by simp;exact hq.1,fun y hy=>?_⟩;rcases jBn hy with hy | rfl
  .exact hq.2 y hy
  have hm:=hq.2 e (jAd he);refine ⟨hm.1,?_⟩;show (a.To.foldl onK e.To).length<=_;have:∀(l:List Int) (T:List zea),(l.foldl onK T).length=T.length:=by
   intro l;induction l with
   | nil=>intro T;rfl
   | cons k l ih=>intro T;rw[List.foldl_cons,ih,q4b]
  rw[this];exact hm.2
 exact hq
theorem Y4a(again:Bool)(id:Int):∀(l:List (Int × Int)) (s:List zfa × List zea),(l.foldl (resS again id) s).1.length<=s.1.length+l.length
 | [],s=>by simp
 | kv::l,s=>by
  rw[List.foldl_cons];have:=Y4a again id l (resS again id s kv);have h2:(resS again id s kv).1.length<=s.1.length+1:=by unfold resS;dsimp only;split <;> simp
  simp only[jCg];omega
theorem q8b(q:zra)(a:zxa)(rs:List Int)(now:Int)(hq:wAa q)(hl:a.To.length<=1048576):wAa (QQa q a rs now).1/\(QQa q a rs now).2.1.length<=1048576:=by
 unfold QQa;split
 .exact ⟨kca,by simp⟩
 split
 .exact ⟨kca,by simp⟩
 rename_i h1 h2;obtain ⟨n,e,ha,he,_⟩:=Wja (q:=q) (a:=a) (on:=true) (by simpa using h2);split
 .exact ⟨kca,by simp⟩
 split
 .exact ⟨kca,by simp⟩
 split
 .exact ⟨kca,by simp⟩
 split
 .exact ⟨kca,by simp⟩
 rw[ha];simp only[jAy,he,jBk];unfold endP;have hm:=hq.2 e (jAd he);refine ⟨⟨?_,fun y hy=>?_⟩,?_⟩
 .have:=List.length_filter_le Z3a (q.Entries.set n (wTo (qva e rs now) (resP e a rs now).2));rw[jCk]at this;exact jCh this hq.1
 .rcases jBn (jCv.1 hy).1 with hy | rfl
  .exact hq.2 y hy
  refine ⟨?_,?_⟩
  .show vOa (qva e rs now).Mail;rw[zfb];exact hm.1
  show (resP e a rs now).2.length<=_;rw[z7b];exact hm.2
 have h3:=Y4a (y9a e rs now) a.Entry (a.To.zip rs) ([],e.To);have h4:(a.To.zip rs).length<=a.To.length:=by rw[List.length_zip];omega
 show ((a.To.zip rs).foldl (resS (y9a e rs now) a.Entry) ([],e.To)).1.length<=_;simp only[jCq]at h3;omega
end Go.Proofs.YtdblnmhmmfahkaaGreat
